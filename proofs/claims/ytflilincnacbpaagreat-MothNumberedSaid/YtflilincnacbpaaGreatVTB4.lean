import Derived.Test.YtflilincnacbpaaGreatVTB3
import Derived.ScopeJumps
import Derived.RangeFuncRecord
import Derived.DeepKeys5
import Derived.Conc.Holds
import Derived.ChangeSame
import Derived.ChangeSlices
import Derived.JoinedOf
import Derived.JoinedAt
import Derived.RowKit3
import Derived.SizedLaws
import Derived.Carry
open Nat
open List hiding mem_of_getElem?
open Array hiding mem_of_getElem? mk
set_option linter.unusedVariables false
set_option linter.unusedSimpArgs false
namespace Go.Proofs.YtflilincnacbpaaGreat
namespace K
open Go
section
variable {c:Cx}{full:List Oper}{Q:Exit->Act->VW->Prop}{Γ0 Γ Γt:Ga}{Δ Δr Δt F:List D}{acc:List DE}{l:List Oper}{id:Nat}{must:List Bool}{T:List Nat}{vs:List Value}{k:Nat}
variable {o:Oper}{N:List (Operand×A)}{X:Type}{r r':A}{d j s:Nat}{e e':D}{g b:Bool}{oj:Oper}{P:Program}{M:Md P}
def Tz(e:DE):Prop:=(e.b=true->e.r= .any)/\((e.b=false/\∀k,tj e k=false)->∀v,e.E v=[])
def WF(acc:List DE):Prop:=∀e∈acc,Tz e
theorem WF.snoc{x:DE}(h:WF acc)(hx:Tz x):WF (acc++[x]):=λe he=>by
 rcases List.mem_append.1 he with he |he
 .
  exact h e he
 simp_all
def DW(c:Cx)(id:Nat)(full:List Oper)(Q:Exit->Act->VW->Prop)(Γ0:Ga)(Δ:List D)(acc:List DE)(l:List Oper)(Γ:Ga):Prop:=WF acc.reverse->DR c id full Q Γ0 Δ acc.reverse l Γ
theorem sa(h:DW c id full Q Γ Δ [] full Γ):JC c (.region id full.toArray true) Q Γ Δ:=ER (h λe he=>by simp at he)
theorem Gy{l0:List Oper}(ps:List Nat)(hp:MX ps l0.length=true)(h:DW c id (zN ps l0) Q Γ Δ [] (zN ps l0) Γ):JC c (.region id l0.toArray true) Q Γ Δ:=JV (HG hp) (h λe he=>by simp at he)
def MY(kr:List Nat):List DE->List Bool->Bool
 |[],_=>true
 |e::es,ms=>(ms.headD false || (!e.b && match e.u with |none=>true |some (k,x)=> !x && kr.contains k)) && MY kr es ms.tail
theorem wV:∀{ks:List Nat} {Δ':List D} {k:Nat},fx Δ ks=some Δ'->k∈ks->∃d,Δ[k]? =some d/\d∈Δ'
 |[],_,_,_,h=>by simp at h
 |k0::ks,_,k,h,hk=>by
  simp only [fx] at h
  split at h
  .
   rename_i d l h1 h2
   cases h
   rcases mem_cons.1 hk with rfl |hk
   .
    simp_all
   .
    obtain⟨d',h3,h4⟩:=wV h2 hk
    simp_all
  .
   cases h
theorem Fl.of{kr:List Nat}(hk:fx Δ kr=some Δr):∀{es:List DE} {ms:List Bool},(∀e∈es,Tz e)->MY kr es ms=true->Fl Δ Δr es ms
 |[],_,_,_=>trivial
 |e::es,ms,hw,h=>by
  simp only [MY,Bool.and_eq_true,Bool.or_eq_true,Bool.not_eq_true'] at h
  refine⟨?_,Fl.of hk (λe he=>hw e (mem_cons_of_mem _ he)) h.2⟩
  have hwe:=hw e (mem_cons_self ..)
  rcases h.1 with h1 |⟨h1,h2⟩
  .
   exact .inl ⟨h1,hwe.1⟩
  .
   cases hu:e.u with
   |none=>exact .inr ⟨h1,hwe.2 ⟨h1,λk=>by simp [tj,hu]⟩,.inl rfl⟩
   |some p=>
    obtain⟨k,x⟩:=p
    rw [hu] at h2
    simp only [Bool.and_eq_true,Bool.not_eq_true'] at h2
    obtain⟨rfl,h3⟩:=h2
    obtain⟨d,g1,g2⟩:=wV hk (by simpa using h3)
    exact .inr ⟨h1,hwe.2 ⟨h1,λk=>by simp [tj,hu]⟩,.inr ⟨k,d,rfl,g1,g2⟩⟩
theorem vE(n:Nat)(must:List Bool)(T:List Nat)(kr:List Nat)(Δr:List D)(hk:fx Δ kr=some Δr)(hck:C0 full acc.reverse must T=true)(hcf:MY kr acc.reverse must=true)(hn:acc.reverse.length=n)(hm:c.P.follows .mixedOrders=true)
 (h:∀vs:List Value,vs.length=n->BH acc.reverse vs->∃ks Δt,fx (oS Δ acc.reverse vs) ks=some (Δr++Δt)/\ks.Nodup/\JT c full Q Γ0 Δ acc.reverse must T vs Δr 0 l Γ0 Δt):DW c id full Q Γ0 Δ acc l Γ:=
 λhw=>NG must T Δr hck (Fl.of hk hw hcf) hm λvs hv=>h vs (hv.trans hn)
theorem uo{x:DE}{Γ':Ga}(hs:DR c id full Q Γ0 Δ (acc.reverse++[x]) l Γ'->DR c id full Q Γ0 Δ acc.reverse (o::l) Γ)(hw:WF acc.reverse)(hx:Tz x)(h:DW c id full Q Γ0 Δ (x::acc) l Γ'):DR c id full Q Γ0 Δ acc.reverse (o::l) Γ:=by
 unfold DW at h;rw [reverse_cons] at h;exact hs (h (hw.snoc hx))
theorem bY(hg:o.guard=none)(hd:o.dst=some d)(hdN:blt d c.N=true)(ht:bB c.M o N [] (λ_:Unit=>(r,[])))(hh:ek Γ N)
 (h:DW c id full Q Γ0 Δ (⟨o,d,N,r,none,false,λ_=>[]⟩::acc) l ((d,r)::Γ)):DW c id full Q Γ0 Δ acc (o::l) Γ:=
 λhw=>uo (DR.step rfl (EU hg hd hdN ht) hh) hw ⟨(λh=>nomatch h),λ_ _=>rfl⟩ h
theorem il(k:Nat)(hk:Δ[k]? =some e)(hg:o.guard=none)(hd:o.dst=some d)(hdN:blt d c.N=true)(ht:bB c.M o N [e] (λ_:Unit=>(r,[e])))(hh:ek Γ N)
 (h:DW c id full Q Γ0 Δ (⟨o,d,N,r,some (k,false),false,λ_=>[]⟩::acc) l ((d,r)::Γ)):DW c id full Q Γ0 Δ acc (o::l) Γ:=
 λhw=>uo (DR.step rfl (ET k hk hg hd hdN ht) hh) hw ⟨(λh=>nomatch h),λ_ _=>rfl⟩ h
theorem qR{ops:Array Oper}(hg:o.guard=some (j,g))(hj:ops[j]? =some oj)(hs:oj.dst=some s){a:Act}(h:a.tmps.getD s undef=undef):Region.wanted o (yielded ops a.tmps)=false:=by
 have h8:yielded ops a.tmps j=none:=by
  unfold yielded;simp only [hj,Option.bind_some,hs];rw [getD_eq_getD_getElem?] at h;cases h9:a.tmps[s]? with
  |none=>rfl
  |some v=>rw [h9] at h;simp at h;subst h;rfl
 simp_all [Region.wanted]
theorem TB{ops:Array Oper}{l:List Oper}(hg:o.guard=some (j,g))(hj:ops[j]? =some oj)(hs:oj.dst=some s)(hl:lk Γ s=some (.eq undef))(hd:o.dst=some d)(hdN:blt d c.N=true)(h:JO c ops l Q ((d,.eq undef)::Γ) Δ):JO c ops (o::l) Q Γ Δ:=by
 intro a w hst;obtain⟨h1,h2,S,h3,h4,h5,h6⟩:=hst;have hw:Region.wanted o (yielded ops a.tmps)=false:=qR hg hj hs (h6 s _ hl);refine kX λK hK=>?_;rw [if_neg (by simp_all)];refine hK _ _ ?_;rw [hd];refine h _ _ (St.put (Δ:=[]) (Δ':=[]) h1 h2 h3 h4 h5 h6 (bD.refl h3.dom) rfl (h5.re uO (λb hb=>(cx hb).elim) (λ_ h=>.inl h)) (λb ⟨e,he,_⟩=>by simp at he) (blt_eq▸hdN))
theorem TF{ops:Array Oper}(hg:o.guard=some (j,g))(hj:ops[j]? =some oj)(hs:oj.dst=some s)(hd:o.dst=some d)(hdN:blt d c.N=true):
 DV c ops Δ ⟨o,d,[(.tmp s,.eq undef)],.eq undef,none,false,λ_=>[]⟩:=
 ⟨hd,blt_eq▸hdN,λS w a K Q hdm hN hO k=>by
  have hb':a.tmps.getD s undef=undef:=hN.1
  rw [if_neg (by grind [qR])]
  exact k S w undef (bD.refl hdm) rfl (by simp_all) (λb hb=>(cx (by simpa [kE] using hb)).elim)⟩
theorem NE{f:X->Value}{E:X->List D}(E':Value->List D)(hE:∀x,E' (f x)=E x)(hg:o.guard=none)(hd:o.dst=some d)(hdN:blt d c.N=true)(ht:bB c.M o N [] (λx=>(.eq (f x),E x)))(hh:ek Γ N)
 (h:DW c id full Q Γ0 Δ (⟨o,d,N,.any,none,true,E'⟩::acc) l ((d,.any)::Γ)):DW c id full Q Γ0 Δ acc (o::l) Γ:=
 λhw=>uo (DR.step rfl (J4 E' hE hg hd hdN ht) hh) hw ⟨λ_=>rfl,λh=>nomatch h.1⟩ h
theorem J3{f:X->Value}{E:X->List D}(k:Nat)(hk:Δ[k]? =some e)(E':Value->List D)(hE:∀x,E' (f x)=E x)(hg:o.guard=none)(hd:o.dst=some d)(hdN:blt d c.N=true)(ht:bB c.M o N [e] (λx=>(.eq (f x),E x)))(hh:ek Γ N)
 (h:DW c id full Q Γ0 Δ (⟨o,d,N,.any,some (k,true),true,E'⟩::acc) l ((d,.any)::Γ)):DW c id full Q Γ0 Δ acc (o::l) Γ:=
 λhw=>uo (DR.step rfl (GA k hk E' hE hg hd hdN ht) hh) hw ⟨λ_=>rfl,λh=>nomatch h.1⟩ h
theorem aE{α:Type}{vs:List α}{n:Nat}(h:vs.length=n+1):∃v vs',vs=v::vs'/\vs'.length=n:=by
 cases vs with
 |nil=>simp at h
 |cons v vs=>grind
theorem rI{α:Type}{vs:List α}(h:vs.length=0):vs=[]:=by simp_all
def P4:D:=.sl undef 0 .bool []
theorem Ji{S:FS}{w:World}:¬P4.holds S w:=by
 rintro(⟨h,_⟩ |⟨b,cap,cs,h,_⟩) <;> simp [undef] at h
def O5(T:TypeId)(a:A):Value->List D
 | .pointer (some ⟨b,0,none⟩)=>[.obj b T a]
 |_=>[P4]
theorem O4{T:TypeId}{a:A}{v:Value}(h:∀d∈O5 T a v,∃S w,d.holds S w):∃b,v= .pointer (some ⟨b,0,none⟩):=by
 unfold O5 at h;split at h
 .simp_all
 .obtain⟨S,w,hb⟩:=h P4 (by simp);simp_all [Ji]
theorem TI.permT{a:Act}{w:VW}{L:Array Bool}{Δt':List D}(hp:Δt.Perm Δt')(h:TI c full Γ0 acc must T vs Δr k Γt Δt L a w):TI c full Γ0 acc must T vs Δr k Γt Δt' L a w:=by
 obtain⟨h1,h2,h3,h4,h5,h6,h7,S,g1,g2,g3,g4,g5⟩:=h;have hp':=hp.append_left Δr;exact⟨h1,h2,h3,h4,h5,h6,h7,S,g1,λb hb=>g2 b ((nc hp' b).2 hb),g3.perm hp',g4,g5⟩
theorem rX(i:Nat)(h:Δt[i]? =some e)(hj:JT c full Q Γ0 Δ acc must T vs Δr k l Γt (e::Δt.eraseIdx i)):JT c full Q Γ0 Δ acc must T vs Δr k l Γt Δt:=
 λq1 q2 q3 q4 q5 q6 aL L a w hI hf=>hj q1 q2 q3 q4 q5 q6 aL L a w (hI.permT (f6 i e h)) hf
theorem Qo{v:Value}{TE:TypeId}{t:Ty}{dd:List t.den}(h:be v=true->JT c full Q Γ0 Δ acc must T vs Δr k l Γt (.sl v TE t dd::F)):JT c full Q Γ0 Δ acc must T vs Δr k l Γt (.sl v TE t dd::F):=
 λq1 q2 q3 q4 q5 q6 aL L a w hI hf=>by
  refine h ?_ q1 q2 q3 q4 q5 q6 aL L a w hI hf
  obtain⟨S,_,_,h5,_⟩:=hI.ex
  rcases h5.holds _ (List.mem_append.2 (.inr (mem_cons_self ..))) with⟨rfl,_⟩ |⟨b,cap,cc,rfl,_⟩ <;> rfl
theorem tH(hg:o.guard=none)(hd:o.dst=none)(ht:bB c.M o N [e] (λ_:Unit=>(r,[e'])))(hh:ek (GB acc vs++Γt) N)(hN:F4 full acc (acc.length+k) N=true)
 (h:JT c full Q Γ0 Δ acc must T vs Δr (k+1) l Γt (e'::F)):JT c full Q Γ0 Δ acc must T vs Δr k (o::l) Γt (e::F):=U0 (Δu:=[e]) hg hd ht hh hN λ_=>h
theorem vC(hg:o.guard=none)(hd:o.dst=some d)(hdN:blt d c.N=true)(hdT:T.contains d=true)(ht:bB c.M o N [e] (λ_:Unit=>(r,[e'])))(hh:ek (GB acc vs++Γt) N)(hN:F4 full acc (acc.length+k) N=true)
 (h:JT c full Q Γ0 Δ acc must T vs Δr (k+1) l ((d,r)::Γt) (e'::F)):JT c full Q Γ0 Δ acc must T vs Δr k (o::l) Γt (e::F):=UZ (Δu:=[e]) hg hd hdN hdT ht hh hN λ_=>h
theorem JY{C:Code}{α β ρ Z:Type}{Y:Option α}{f:α->Option β}{K:β->Option ρ}{q:ρ}(G:Z->α->Ga)(E:Z->α->List D)(h:(Y.bind f).bind K=some q)
 (h1:∀K':α->Option ρ,Y.bind K'=some q->JC c C (bQ (λa w=>∃z:Z×α,K' z.2=some q/\St c (G z.1 z.2) (E z.1 z.2) a w) Q) Γ Δ)
 (h2:∀z x,(f x).bind K=some q->JN c (Q .normal) (G z x) (E z x)):JC c C Q Γ Δ:=λa w s=>by
 refine nj (λe a w q=>?_) (h1 (λx=>(f x).bind K) (by
  grind) a w s)
 cases e with
 |normal=>obtain⟨z,hp,hs⟩:=q;exact h2 z.1 z.2 hp a w hs
 |_=>exact q
theorem JX{C:Code}{α β ρ ε Z:Type}{Y:Option (Except ε α)}{g:ε->Option β}{f:α->Option β}{K:β->Option ρ}{q:ρ}(G:Z->α->Ga)(E:Z->α->List D)(p:ε->Prop)(h:(bE Y g f).bind K=some q)(hg:∀e,(g e).bind K=some q->p e)
 (h1:∀K':Except ε α->Option ρ,(∀e,K' (.error e)=some q->p e)->Y.bind K'=some q->JC c C (bQ (λa w=>∃z:Z×α,K' (.ok z.2)=some q/\St c (G z.1 z.2) (E z.1 z.2) a w) Q) Γ Δ)
 (h2:∀z x,(f x).bind K=some q->JN c (Q .normal) (G z x) (E z x)):JC c C Q Γ Δ:=λa w s=>by
 refine nj (λe a w q=>?_) (h1 (λ| .error e=>(g e).bind K | .ok x=>(f x).bind K) hg (by
  cases Y with
  |none=>cases h
  |some x=>cases x with
   |error e=>exact h
   |ok x=>exact h) a w s)
 cases e with
 |normal=>obtain⟨z,hp,hs⟩:=q;exact h2 z.1 z.2 hp a w hs
 |_=>exact q
theorem EM{TE:TypeId}{t:Ty}{dd:List t.den}{Δ':List D}(h:bB M o N Δ (λv:Value=>(.eq v,.sl v TE t dd::Δ'))):bB M o N Δ (λ_:Unit=>(.rep (.slice t) dd,Δ')):=by
 refine⟨h.1,λro S w a next Q hd hN hO k=>?_⟩;refine h.2 ro S w a next Q hd hN hO λv S' w' u hs hr ho hf=>?_;have e:u=v:=hr;subst e;have hsl:=ho.holds _ (mem_cons_self ..);have hp:=pairwise_cons.1 ho.apart;rcases hsl with⟨rfl,rfl⟩ |⟨b,cap,cc,rfl,q1,q1',q2,q3,q4⟩
 .refine k () S' w' _ hs ⟨_,.inl ⟨none,0,rfl,rfl⟩,rfl⟩ (ho.re ⟨λe he=>ho.holds e (mem_cons_of_mem _ he),λb ⟨e,he,hb⟩=>ho.own b ⟨e,mem_cons_of_mem _ he,hb⟩,hp.2⟩ mi (λ_ h=>.inl h)) λb ⟨e,he,hb⟩=>hf b ⟨e,mem_cons_of_mem _ he,hb⟩
 .have hfe:av (.sl (.slice (some ⟨b,0,none⟩) dd.length cap) TE t dd::Δ') b:=⟨_,mem_cons_self ..,rfl⟩;have hown:=ho.own b hfe;have hK:gr S' w' w':=λ_ _=>rfl;refine k () (λx=>S' x\/x=b) w' _ ⟨λx hx=>.inl (hs.sub x hx),λx hx=>?_,λx hx=>?_,hs.size,hs.keep,hs.os,hs.tape,hs.output,hs.subA,hs.oldA,hs.Z⟩ ?_ (ho.re ⟨λe he=>?_,λx ⟨e,he,hb⟩=>?_,hp.2⟩ mi (λx (hx:S' x\/x=b)=>hx.imp id λe=>by simp_all)) λx ⟨e,he,hb⟩=>hf x ⟨e,mem_cons_of_mem _ he,hb⟩
  .rcases hx with hx |rfl
   .exact hs.new x hx
   grind
  .rcases hx with hx |rfl
   .exact hs.dom x hx
   omega
  .refine⟨_,.inr ⟨b,0,cap,cc,TE,(0,0),rfl,q1,.inr rfl,q2,?_⟩,rfl⟩;grind [cH,dS]
  .exact cp (λ_ h=>.inl h) hK e (λ_ _=>rfl) (ho.holds e (mem_cons_of_mem _ he))
  .have h7:=ho.own x ⟨e,mem_cons_of_mem _ he,hb⟩;refine⟨λhx=>?_,h7.2⟩;rcases hx with hx |rfl
   .simp_all
   .exact hp.1 e he x rfl hb
end
section
variable {P:Program}{M:Md P}{o:Oper}{x y z:Operand}{T T' e:TypeId}{r r':A}{t u:Ty}
theorem wK{S:FS}{w:World}{l:List t.den}{v:Value}(h:(A.rep (.slice t) l).holds S w v):∃a cap,v= .slice a l.length cap/\rd S w (.slice t) l [.slice a l.length cap]:=by
 obtain⟨cs,h1,h2⟩:=h;rcases h1 with⟨a,cap,rfl,rfl⟩ |⟨b,off,cap,c,T0,fz,rfl,hle,hS,hb,hr⟩
 .exact⟨a,cap,h2,.inl ⟨a,cap,rfl,rfl⟩⟩
 .exact⟨_,cap,h2,.inr ⟨b,off,cap,c,T0,fz,rfl,hle,hS,hb,hr⟩⟩
end
section
variable {P:Program}{M:Md P}{o:Oper}{x y z:Operand}{T T' e:TypeId}{r r':A}{t u:Ty}
theorem AN{M:Md P}{rd:Option Nat}{a:Act}{v:VW}{next:Act->VW->Prop}{Q:Exit->Act->VW->Prop}{f:FuncId}{args:Array Value}(hnd:nd o.op=true)(hex:∀w:World,(execOp a.eval o).runT P w #[]=(.ok (.enter f args) w, #[]))
 (h:∀v1,bu v v1->jC M .normal f args v1 λ
  | .returned x,v''=>next (a.put o.dst x) v''
  | .panicked ch,v''=>Q (.panic ch) a v''
  | .outgrown,_=>False):o.wk M rd a v next Q:=O7 λv1 hr=>by
 rw [Oper.semAt_eq _ _ _ (λc e=>by rw [e] at hnd;cases hnd)]
 have h1:(execOp a.eval o).run P v1= .ok (.enter f args) v1:=by simp_all
 refine⟨?_,by rw [h1];exact h v1 hr⟩
 grind [Sg,execOp,Sem.events,eP.refl]
theorem Cd{n:Nat}(hT:P.underlying T=some (.slice e))(b:Option Addr)(l c:Nat):Ns P (Op.equalIn (n+1) T (.slice b l c) (.slice none 0 0)):=by
 unfold Op.equalIn;refine iZ hT ?_;cases b <;> trivial
theorem Iu{S:FS}{w:World}{l:List t.den}{ρ:Operand->Value}(ho:o.op= .binOp .eql T x y T')(hT:P.underlying T=some (.slice e))(hx:(A.rep (.slice t) l).holds S w (ρ x))(hy:ρ y= .slice none 0 0):Ns P (execOp ρ o):=by
 refine uh ho ?_;obtain⟨c,cap,e1,_⟩:=wK hx;rw [e1,hy];exact aj (Cd (n:=9999) hT c l.length cap) λ_=>cI
theorem wR(ho:o.op= .makeMap T none):bB M o [] [] (λz:Nat=>(.eq (.map (some z)),[.raw z (.map #[] 0)])):=by
 refine vP.T ⟨by grind [nd],λS w a next hd hN _ k=>?_⟩ (λ_ _ a _ _=>iC (by grind [sP]) a.eval) (λd hd=>by simp_all)
 have hr:(execOp a.eval o).run P w= .ok (.value (.map (some w.heap.size))) (w.alloc (.map #[] 0)):=by
  simp_all [Instr.makeMap,execOp]
 rw [hr];refine k w.heap.size S _ _ (fU hd _) rfl (gk (heap_alloc_new w _) ?_) ?_
 .intro b hb;simp only [D.foot,Option.some.injEq] at hb;subst hb;exact⟨λh=>by grind,by simp⟩
 simp_all [D.foot,eq_comm,iv]
theorem Ll{l:List t.den}(ho:o.op= .binOp .eql T x y T')(hT:P.underlying T=some (.slice e)):
 bB M o [(x,.rep (.slice t) l),(y,.eq (.slice none 0 0))] [] (λb:{ b:Bool // b=true->l=[] }=>(.eq (.bool b.1),[])):=by
 refine vP.T ⟨by grind [nd],λS w a next hd hN hO k=>?_⟩ (λS w a hN _=>Iu ho hT hN.1 hN.2.1) (λd hd=>by simp at hd)
 obtain⟨c,cap,e1,hr⟩:=wK hN.1
 have e2:a.eval y= .slice none 0 0:=hN.2.1
 have hrun:(execOp a.eval o).run P w= .ok (.value (.bool c.isNone)) w:=by
  have h1:(Op.equalIn 10000 T (.slice c l.length cap) (.slice none 0 0)).run P w= .ok c.isNone w:=by
   unfold Op.equalIn;cases c <;> simp only [Sem.run_bind,run_underlying hT,Result.andThen_ok,Sem.run_pure,Option.isNone_none,Option.isNone_some]
  have h2:(do eqGuard .eql T x y (.slice c l.length cap) (.slice none 0 0);binOp .eql T (.slice c l.length cap) (.slice none 0 0):Sem Value).run P w= .ok (.bool c.isNone) w:=by
   simp [eqGuard,binOp,Op.equal,Op.maxDepth,h1]
  simp only [Sem.run_bind] at h2;simp only [execOp,ho,e1,e2,Sem.run_bind,h2];rfl
 rw [hrun]
 refine k ⟨c.isNone,λh=>?_⟩ S w _ (j6.refl hd) rfl hO (λb hb=>.inl hb)
 rcases hr with⟨_,_,_,h2⟩ |⟨b,off,cap',_,_,_,h2,_⟩
 .
  exact h2
 simp_all
end
section
variable {c:Cx}{ops:Array Oper}{l:List Oper}{Q:Exit->Act->VW->Prop}{Γ Γ':Ga}{Δ Δ' F:List D}{P:Program}{M:Md P}{o:Oper}{x y:Operand}{T e:TypeId}{t:Ty}
theorem St.swap{d d':D}{a:Act}{w:VW}(hf:∀b,d'.foot=some b↔d.foot=some b)(hh:∀S,d.holds S w.toWorld->d'.holds S w.toWorld)(h:St c Γ (d::F) a w):St c Γ (d'::F) a w:=by
 obtain⟨h1,h2,S,h3,h4,h5,h6⟩:=h
 have hfe:∀b,av (d'::F) b->av (d::F) b:=λb ⟨q,hq,hb⟩=>by
  rcases mem_cons.1 hq with rfl |hq
  .exact⟨d,mem_cons_self ..,(hf b).1 hb⟩
  .exact⟨q,mem_cons_of_mem _ hq,hb⟩
 have hp:=pairwise_cons.1 h5.apart;refine⟨h1,h2,S,h3,λb hb=>h4 b (hfe b hb),h5.re ⟨λq hq=>?_,λb hb=>h5.own b (hfe b hb),pairwise_cons.2 ⟨λq hq b hb=>hp.1 q hq b ((hf b).1 hb),hp.2⟩⟩ hfe (λ_ h=>.inl h),h6⟩;rcases mem_cons.1 hq with rfl |hq
 .exact hh S (h5.holds _ (mem_cons_self ..))
 .exact h5.holds q (mem_cons_of_mem _ hq)
end
def gI{α β:Type}(x:Option α)(a:β)(b:α->β):β:=match x with
 |none=>a
 |some q=>b q
theorem wv{α β ρ:Type}{A:Option β}{B:α->Option β}{K:β->Option ρ}{r:ρ}(h:(gI none A B).bind K=some r):A.bind K=some r:=h
theorem wu{α β ρ:Type}{q:α}{A:Option β}{B:α->Option β}{K:β->Option ρ}{r:ρ}(h:(gI (some q) A B).bind K=some r):(B q).bind K=some r:=h
@[reducible] def K8{α:Type}(o:Option α)(z:Nat):A:=match o with
 |none=>.eq (.pointer none)
 |some _=>.eq (.pointer (some ⟨z,0,none⟩))
@[reducible] def K7{α:Type}(o:Option α)(f:α->List D):List D:=match o with
 |none=>[]
 |some q=>f q
theorem nA{S:FS}{w:World}{a:Act}:∀{N1 N2:List (Operand×A)},bI S w a (N1++N2)->bI S w a N1/\bI S w a N2
 |[],_,h=>⟨trivial,h⟩
 |_::_,_,h=>⟨⟨h.1,(nA h.2).1⟩,(nA h.2).2⟩
theorem sR{S:FS}{w:World}{a:Act}:∀{xs:List Operand} {vs:List Value},xs.length=vs.length->bI S w a (xs.zip (vs.map .eq))->xs.map a.eval=vs
 |[],[],_,_=>rfl
 |x::xs,v::vs,h,hN=>by
  have h1:a.eval x=v:=hN.1
  rw [map_cons,h1,sR (by simp_all) hN.2]
 |[],_::_,h,_=>by simp at h
 |_::_,[],h,_=>by simp at h
section
variable {P:Program}{M:Md P}{o:Oper}
theorem sG{f:Nat}(xs ys:List Operand)(fs cs:List Value)(ho:o.op= .makeFunc (.func f) xs.toArray ys.toArray)(h1:xs.length=fs.length)(h2:ys.length=cs.length):
 bB M o (xs.zip (fs.map .eq)++ys.zip (cs.map .eq)) [] (λ_:Unit=>(.eq (.func (.func f) fs.toArray cs.toArray),[])):=
 .val0 λS w a hN=>by
  obtain⟨n1,n2⟩:=nA hN
  have e1:=sR h1 n1
  have e2:=sR h2 n2
  refine⟨.func (.func f) fs.toArray cs.toArray,?_,rfl⟩
  simp_all [execOp,Instr.makeFunc]
end
theorem j8{c:Cx}{P:Program}{fn:Func}{R:Ending->VW->Prop}{Γ:Ga}{Δ:List D}(h:JN c (cg P fn R .ret) Γ Δ):JN c (cg P fn R .normal) Γ Δ:=h
section
variable {c:Cx}{full:List Oper}{Q:Exit->Act->VW->Prop}{Γ0 Γ Γt:Ga}{Δ Δr Δt F:List D}{acc:List DE}{l:List Oper}{id:Nat}{must:List Bool}{T:List Nat}{vs:List Value}{k:Nat}{o:Oper}
def SH(full:List Oper)(n:Nat):Bool:=(List.range full.length).all λj=>blt j n || (List.range j).all λi=>((kN [] full).getD j 0).testBit i
theorem Qp(hA:SH full (acc.length+k)=true)(h:JO c full.toArray (o::l) Q (GB acc vs++Γt) (Δr++Δt)):JT c full Q Γ0 Δ acc must T vs Δr k (o::l) Γt Δt:=by
 intro hfull hdr hDR hck hfl hvs aL;obtain⟨hc1,hlt,hc3,hc4,hc5,hc6,hc7⟩:=lH hck
 have hforced:∀m,acc.length+k≤m->m < full.length->∀i,i < m->((kN [] full).getD m 0).testBit i=true:=λm hm1 hm2 i hi=>by
  unfold SH at hA;rw [List.all_eq_true] at hA;have:=hA m (List.mem_range.2 hm2);simp only [Bool.or_eq_true,blt_eq] at this;grind
 have hjl:acc.length+k < full.length:=by
  grind [Nat.lt_or_ge,drop_eq_nil_of_le]
 induction aL with
 |zero=>
  grind
 |succ n ih=>
  intro L a w hI hf;by_cases h0:cnt L acc.length=0
  .have hall:=lG h0;refine zA hlt (o::l) (acc.length+k) hdr hforced L hI.size (λi hi _=>?_) (λi hi=>?_) a w ?_ (n+1) (by omega)
   .rcases Nat.lt_or_ge i acc.length with hh |hh
    .grind
    .rw [hI.tail i hh];grind
   .rw [hI.tail i (by omega)];simp;omega
   .obtain⟨S,h3,h4,h5,h6,h7⟩:=hI.ex;refine h a w ⟨hI.defers,hI.tmps,S,h3,h4,h5,λs r hl=>?_⟩;rcases D7 hvs hl with⟨j,e,hj,hd,hr⟩ |⟨h8,h9⟩
    .have hjl:j < acc.length:=by
      grind
     subst hd hr;grind
    .exact h6 s r h9 h8
  .obtain⟨j,hj1,hj2,hj3⟩:=pB h0;obtain⟨oj,hoj⟩:∃oj,full[j]? =some oj:=⟨_,List.getElem?_eq_getElem (by omega)⟩;have hrj:j∈Region.ready .any full.toArray L:=(dw hI.size).2 ⟨oj,hoj,hj2,λi hi=>hj3 i (hlt j oj hoj i hi)⟩;refine⟨λhr=>(by grind),λi hi=>?_⟩;obtain⟨oi,hoi,hli,hpi⟩:=(dw hI.size).1 hi
   have hil:i < full.length:=by
    grind
   have hiL:i < L.size:=by rw [hI.size];exact hil
   have hia:i < acc.length:=by
    rcases Nat.lt_or_ge i acc.length with h |h
    .exact h
    .exfalso
     have hki:acc.length+k≤i:=by
      rw [hI.tail i h] at hli;grind
     have:=rU hI.closed hlt i i oi (Nat.le_refl _) hoi hpi j (hforced i hki hil j (by omega));grind
   refine kR (λa' w' hI'=>ih _ a' w' hI' ?_) (vv hfull hDR hck hfl hI hia hi);have:=pA (L:=L) (L':=L.setIfInBounds i true) (i:=i) (λj hj=>by rw [cX hiL,if_neg (Ne.symm hj)]) hli (by rw [cX hiL,if_pos rfl]) hia;omega
end
section
variable {c:Cx}{Q:Exit->Act->VW->Prop}{Γ Γ':Ga}{Δ Δ':List D}{C C':Code}{M:Act->VW->Prop}
theorem S9{i:Nat}(h:JN c (Q .normal) Γ Δ):JC c (.label i) Q Γ Δ:=λa w s=>G3 (h a w s)
theorem TD{i:Nat}(h:JN c (Q (.goto i)) Γ Δ):JC c (.goto i) Q Γ Δ:=λa w s=>Kx (h a w s)
end
theorem ya{w:World}{b:Nat}{ob:Obj}(hb:b < w.heap.size):(w.putObj b ob).heap[b]? =some ob:=by
 simp [World.putObj,hb]
theorem pn{w:World}{b b':Nat}{ob:Obj}(h:b≠b'):(w.putObj b ob).heap[b']? =w.heap[b']? :=by
 simp [World.putObj,getElem?_setIfInBounds_ne h]
theorem rj{w:World}{b:Nat}{ob:Obj}:(w.putObj b ob).heap.size=w.heap.size:=by simp_all
theorem om{X:Nat->Prop}{S:FS}{w:World}(hd:∀b,S b->b < w.heap.size){b:Nat}(hX:X b)(ob:Obj):j6 X S w S (w.putObj b ob):=qY hd hX ob
theorem gR.alloc{Δ:List D}{S:FS}{w:World}(hd:∀b,S b->b < w.heap.size)(h:gR Δ S w)(ob:Obj):gR (.raw w.heap.size ob::Δ) S (w.alloc ob):=by
 have hlt:∀b,av Δ b->b < w.heap.size:=λb hb=>(h.own b hb).2;refine⟨λd hd'=>?_,λb ⟨d,hd',e⟩=>?_,pairwise_cons.2 ⟨λd hd' b e e'=>?_,h.apart⟩⟩
 .rcases mem_cons.1 hd' with rfl |hd'
  .exact heap_alloc_new w ob
  .exact cp (λ_ h=>h) (λb hb=>gB w ob b (hd b hb)) d (λb e=>gB w ob b (hlt b ⟨d,hd',e⟩)) (h.holds d hd')
 .rcases mem_cons.1 hd' with rfl |hd'
  .simp only [D.foot,Option.some.injEq] at e;subst e;exact⟨λhs=>by grind,by simp⟩
  .have:=h.own b ⟨d,hd',e⟩;exact⟨this.1,by simp;omega⟩
 .simp only [D.foot,Option.some.injEq] at e;subst e;have:=hlt _ ⟨d,hd',e'⟩;omega
theorem gR.put{Δ:List D}{S:FS}{w:World}{b:Nat}{o ob:Obj}(h:gR (.raw b o::Δ) S w):gR (.raw b ob::Δ) S (w.putObj b ob):=by
 have hp:=pairwise_cons.1 h.apart;have hb:=h.own b ⟨_,mem_cons_self ..,rfl⟩;have hne:∀d∈Δ,∀b',d.foot=some b'->b≠b':=λd hd b' e e'=>hp.1 d hd b rfl (e'▸e);refine⟨λd hd=>?_,λb' ⟨d,hd,e⟩=>?_,pairwise_cons.2 ⟨hp.1,hp.2⟩⟩
 .rcases mem_cons.1 hd with rfl |hd
  .exact ya hb.2
  .exact cp (λ_ h=>h) (λb' hb'=>pn (λe=>hb.1 (by simp_all))) d (λb' e=>pn (hne d hd b' e)) (h.holds d (mem_cons_of_mem _ hd))
 .rw [rj];rcases mem_cons.1 hd with rfl |hd
  .simp_all [D.foot,Option.some.injEq]
  .exact h.own b' ⟨d,mem_cons_of_mem _ hd,e⟩
theorem gR.tail{Δ:List D}{d:D}{S:FS}{w:World}(h:gR (d::Δ) S w):gR Δ S w:=
 ⟨λe he=>h.holds e (mem_cons_of_mem _ he),λb ⟨e,he,hb⟩=>h.own b ⟨e,mem_cons_of_mem _ he,hb⟩,(pairwise_cons.1 h.apart).2⟩
theorem aS.alloc{Δ:List D}{S:FS}{v:VW}(hd:∀b,S b->b < v.heap.size)(h:aS Δ S v)(ob:Obj):aS (.raw v.heap.size ob::Δ) S (v.upd (v.alloc ob)):=
 h.of (fU hd ob) (h.p.alloc hd ob) λb ⟨d,hd',e⟩=>by
  rcases mem_cons.1 hd' with rfl |hd'
  .
   simp_all [D.foot,Option.some.injEq]
  .
   exact .inl ⟨d,hd',e⟩
theorem aS.put{Δ:List D}{S:FS}{v:VW}{b:Nat}{o:Obj}(ob:Obj)(hd:∀b,S b->b < v.heap.size)(h:aS (.raw b o::Δ) S v):aS (.raw b ob::Δ) S (v.upd (v.putObj b ob)):=
 h.of (om hd (X:=av (.raw b o::Δ)) ⟨_,mem_cons_self ..,rfl⟩ ob) h.p.put λb' ⟨d,hd',e⟩=>by
  rcases mem_cons.1 hd' with rfl |hd'
  .
   exact .inl ⟨_,mem_cons_self ..,e⟩
  .
   exact .inl ⟨d,mem_cons_of_mem _ hd',e⟩
theorem aS.tail{Δ:List D}{d:D}{S:FS}{v:VW}(h:aS (d::Δ) S v):aS Δ S v:=h.re h.p.tail mi λ_ h=>.inl h
theorem St.putRaw{c:Cx}{Γ:Ga}{Δ:List D}{a:Act}{w:VW}{b:Nat}{o:Obj}(ob:Obj)(h:St c Γ (.raw b o::Δ) a w):St c Γ (.raw b ob::Δ) a (w.upd (w.putObj b ob)):=by
 obtain⟨h1,h2,S,h3,h4,h5,h6⟩:=h;have hb:=h5.own b ⟨_,mem_cons_self ..,rfl⟩;refine⟨h1,h2,S,h3.trans (bD.of (om (X:=λx=>x=b) h3.dom rfl ob)) (λx e=>by subst e;exact h4 x ⟨_,mem_cons_self ..,rfl⟩),λx ⟨d,hd,e⟩=>?_,h5.put ob h3.dom,λs r hl=>A.mono (λ_ h=>h) (λx hx=>pn (λe=>hb.1 (by simp_all))) r (h6 s r hl)⟩;rcases mem_cons.1 hd with rfl |hd
 .exact h4 x ⟨_,mem_cons_self ..,e⟩
 .exact h4 x ⟨d,mem_cons_of_mem _ hd,e⟩
section
variable {P:Program}{α:Type}{s:Sem α}{b:Nat}{o:Obj}{Δ:List D}{S:FS}{v:VW}
theorem HJ(hO:aS (.raw b o::Δ) S v)(hc:calm o=true)(hns:Ns P s)(h:∀w:World,w.heap[b]? =some o->∃x w1,s.run P w= .ok x w1):
 ∃x w',s.run P v= .ok x w'/\∀e∈s.events P v #[],lL v w'.heap.size e:=by
 have hO1:aS [.raw b o] S v:=aS.part (F:=Δ) hO
 refine hO1.sg (λd hd=>by rw [List.mem_singleton.1 hd];exact hc) hns (h _ ?_)
 exact(qd hO1.p).holds _ (List.mem_singleton.2 rfl)
theorem ue{x:α}{ob:Obj}(hO:aS (.raw b o::Δ) S v)(hc:calm o=true)(hns:Ns P s)(h:∀w:World,w.heap[b]? =some o->s.run P w= .ok x (w.putObj b ob)):
 s.run P v= .ok x (v.putObj b ob)/\eP v (v.putObj b ob) (s.events P v #[]):=by
 have hr:=h v (hO.holds _ (mem_cons_self ..))
 obtain⟨x',w',h1,h2⟩:=HJ hO hc hns λw hw=>⟨_,_,h w hw⟩
 rw [hr] at h1
 cases h1
 have hf:=hO.far b ⟨_,mem_cons_self ..,rfl⟩
 exact⟨hr,λb' _ hz=>pn (λe=>by simp_all),by simp_all,.refl _,rfl,rfl,h2⟩
theorem K4{x:α}(hO:aS (.raw b o::Δ) S v)(hc:calm o=true)(hns:Ns P s)(h:∀w:World,w.heap[b]? =some o->s.run P w= .ok x w):
 s.run P v= .ok x v/\eP v v (s.events P v #[]):=by
 have hr:=h v (hO.holds _ (mem_cons_self ..))
 obtain⟨x',w',h1,h2⟩:=HJ hO hc hns λw hw=>⟨_,_,h w hw⟩
 rw [hr] at h1
 cases h1
 exact⟨hr,λ_ _ _=>rfl,Nat.le_refl _,.refl _,rfl,rfl,h2⟩
theorem ny{l:Nat}:Ns P (Instr.getLoop l):=by
 unfold Instr.getLoop;refine eS λo _=>?_;cases o <;> trivial
theorem If{l:Nat}{args:Array Value}:Ns P (Instr.yield l args):=by
 unfold Instr.yield;refine aj ny λr=>?_;split
 .trivial
 .exact cI
theorem wb{l:Nat}:Ns P (Instr.beginRound l):=by
 unfold Instr.beginRound;refine aj ny λr=>aj (fA rfl) λ_=>?_;split
 .exact cI
 all_goals exact fB
theorem zY{l:Nat}{j:Option Code}:Ns P (Instr.endRound l j):=by
 unfold Instr.endRound;exact aj ny λr=>aj (fA rfl) λ_=>cI
theorem Ce{l:Nat}:Ns P (Instr.endLoop l):=by
 unfold Instr.endLoop;refine aj ny λr=>?_;split
 .exact aj fB λ_=>aj (fA rfl) λ_=>cI
 .exact aj (fA rfl) λ_=>cI
theorem t6{b:Nat}:Ns P (Instr.takeDeferred b):=by
 unfold Instr.takeDeferred;refine eS λo _=>?_;split
 .exact aj (fA rfl) λ_=>cI
 .trivial
theorem yi{fn:FuncId}{tmps:Array Value}{ps:Array Tmp}{asg bd:Code}:Ns P (Instr.enterLoop fn tmps ps asg bd none):=by
 unfold Instr.enterLoop;exact⟨rfl,λ_=>⟨rfl,λ_=>trivial⟩⟩
end
def YT{P:Program}(M:Md P)(l:Nat)(as:List A)(Δ:List D){X:Type}(R:X->A×List D):Prop:=
 ∀(S:FS) (w:VW) (vs:List Value),(∀b,S b->b < w.heap.size)->fM S w as vs->aS Δ S w->
  ∃fn tm asg bd,(Instr.yield l vs.toArray).run P w= .ok (.round l fn tm asg bd) w/\eP w w ((Instr.yield l vs.toArray).events P w #[])/\o5 M l fn tm asg bd w (dK S w Δ R)
section
variable {P:Program}{M:Md P}{o:Oper}{x:Operand}{Δ:List D}{X:Type}{R:X->A×List D}
theorem K9{l:Nat}{as:List A}{c:Call}(xs:List Operand){ts:Array TypeId}(ho:o.op= .call c)(hc:c={ callee:=.value x,args:=xs.toArray,argTypes:=ts })(hlen:xs.length=as.length)(h:YT M l as Δ R):
 bB M o ((x,.eq (.func (.yield l) #[] #[]))::xs.zip as) Δ R:=by
 have hnd:nd o.op=true:=by grind [nd]
 refine⟨hnd,λro S w a next Q hd hN hO k=>O7 λv1 hr=>?_⟩
 rw [Oper.semAt_eq _ _ _ (λc e=>by simp_all)]
 obtain⟨fn,tm,asg,bd,h1,h2,h3⟩:=h S v1 _ (λb hb=>Nat.lt_of_lt_of_le (hd b hb) hr.size) (fM.of hlen (bI.rely hd hO.sees hr hN.2)) (hO.rely hd hr)
 have he:execOp a.eval o=Instr.yield l (xs.map a.eval).toArray:=by
  have e1:a.eval x= .func (.yield l) #[] #[]:=hN.1;simp_all [execOp,resolve,Deferred.ofValue,invoke]
 rw [he]
 refine⟨by simp_all [Sg],?_⟩
 rw [h1]
 simp only [GE]
 refine o5.mono (v:=v1) h3 ?_
 rintro e w' ⟨x,S',v,rfl,h1,h2,h3,h4⟩
 exact k x S' w' v ((bD.rely hd hr).trans h1 λb hb=>.inl hb) h2 h3 λb hb=>(h4 b hb).imp id (Nat.le_trans hr.size)
end
def A1(tm:Array Value):Ga->Prop
 |[]=>True
 |(s,r)::l=>r= .eq (tm.getD s undef)/\A1 tm l
theorem A1.lk{tm:Array Value}:∀{Γ:Ga} {s:Nat} {r:A},A1 tm Γ->lk Γ s=some r->r= .eq (tm.getD s undef)
 |(s0,r0)::l,s,r,h,hl=>by
  simp only [K.lk] at hl
  split at hl
  .
   rename_i e;subst e;cases hl;exact h.1
  .
   exact A1.lk h.2 hl
section
variable {P:Program}{main:Bool}{b c:Frame}{a:Act}{k:List Item}{cs:List Frame}{w w':World}{l:Nat}{x:Value}
theorem L9(hb:b.roundOf=some l)(hr:(Instr.beginRound l).run P w= .ok () w'):∃es,(∀e∈es,e∈(Instr.beginRound l).events P w #[])/\∀main,stepG P main (Gr (b.atR a (.beginRound::k)) cs) w= .go (Gr (b.atR a k) cs) w' es:=by
 refine⟨seen P b.fn (if b.kind == .early then #[] else(Instr.beginRound l).events P w #[]),λe hm=>?_,λmain=>?_⟩
 .have:=Conc.mem_seen hm;simp_all
 simp_all [stepG,stepG.exec,stepG.apply,Frame.atR,Frame.finish,GStep.after]
theorem RP(j:Option Code)(k:List Item)(hb:b.roundOf=some l)(hk:b.kind= .normal)
 (hj:(k=[]/\j=none)\/(∃k',k= .code .ret::k'/\j=some .ret)\/(∃id k',k= .code (.exit id)::k'/\exitTo id k'=none/\j=some (.exit id))\/(∃i k',k= .code (.goto i)::k'/\gotoIn i k'=none/\j=some (.goto i)))
 (hr:(Instr.endRound l j).run P w= .ok x w'):
 ∃es,(∀e∈es,e∈(Instr.endRound l j).events P w #[])/\∀main,stepG P main (Gr (b.atR a k) (c::cs)) w= .go (Gr (c.finish x) cs) w' es:=by
 refine⟨seen P b.fn ((Instr.endRound l j).events P w #[]),λe hm=>Conc.mem_seen hm,λmain=>?_⟩
 rcases hj with⟨rfl,rfl⟩ |⟨k',rfl,rfl⟩ |⟨id,k',rfl,h3,rfl⟩ |⟨i,k',rfl,h3,rfl⟩
 .
  simp_all [stepG,stepG.exec,Frame.atR,doReturn,GStep.after]
 .
  simp_all [stepG,stepG.exec,Frame.atR,doReturn,GStep.after]
 .
  simp_all [stepG,stepG.exec,Frame.atR,doReturn,GStep.after]
 simp_all [stepG,stepG.exec,Frame.atR,doReturn,GStep.after]
end
def ud{P:Program}(M:Md P)(l:Nat)(bd:Code)(Q:Exit->Act->VW->Prop)(a:Act)(w:VW):Prop:=
 ∀v1,bu w v1->∃w',(Instr.beginRound l).run P v1= .ok () w'/\eP v1 w' ((Instr.beginRound l).events P v1 #[])/\bd.wk M (some l) Q a (v1.upd w')
theorem Bc{c:Cx}{l:Nat}{rec:Loop}{bd:Code}{Q:Exit->Act->VW->Prop}{Γ:Ga}{Δ:List D}(hc:c.rd=some l)(hs:rec.state= .ready)(h:JC c bd Q Γ (.raw l (.loop { rec with state:=.busy })::Δ)):
 JN c (ud c.M l bd Q) Γ (.raw l (.loop rec)::Δ):=by
 intro a w st v1 hr
 have st1:=st.rely hr
 obtain⟨_,_,S,h3,_,h5,_⟩:=st1
 obtain⟨r1,r2⟩:=ue (P:=c.P) (ob:=.loop { rec with state:=.busy }) h5 rfl wb λw hw=>run_beginRound hw hs
 refine⟨_,r1,r2,?_⟩
 have:=h a _ (St.putRaw (.loop { rec with state:=.busy }) (st.rely hr))
 simp_all
def wL(P:Program)(l:Nat)(R:Ending->VW->Prop)(j:Option Code)(v:VW):Prop:=
 ∀v1,bu v v1->∃x w',(Instr.endRound l j).run P v1= .ok x w'/\eP v1 w' ((Instr.endRound l j).events P v1 #[])/\R (.returned x) (v1.upd w')
def pj(P:Program)(l:Nat)(R:Ending->VW->Prop):Exit->Act->VW->Prop
 | .normal,_,v=>wL P l R none v
 | .ret,_,v=>wL P l R (some .ret) v
 | .exit id,_,v=>wL P l R (some (.exit id)) v
 | .goto i,_,v=>wL P l R (some (.goto i)) v
 |_,_,_=>False
theorem Qg{P:Program}{M:Md P}{N l:Nat}{rec:Loop}{as:List A}{Δ:List D}{Γ:Ga}{X:Type}{R:X->A×List D}(tm:List Value->Array Value)
 (hy:∀S w vs,fM S w as vs->∀w':World,w'.heap[l]? =some (.loop rec)->(Instr.yield l vs.toArray).run P w'= .ok (.round l rec.fn (tm vs) rec.assign rec.body) w')
 (hst:∀S (w:VW) vs,(∀b,S b->b < w.heap.size)->fM S w as vs->aS (.raw l (.loop rec)::Δ) S w->St ⟨P,N,S,w,av (.raw l (.loop rec)::Δ),some l,[],M⟩ Γ (.raw l (.loop rec)::Δ) { tmps:=tm vs,defers:=[] } w)
 (h:∀S w,JC ⟨P,N,S,w,av (.raw l (.loop rec)::Δ),some l,[],M⟩ rec.assign (bQ (ud M l rec.body (pj P l (dK S w (.raw l (.loop rec)::Δ) R))) (λ_ _ _=>False)) Γ (.raw l (.loop rec)::Δ)):
 YT M l as (.raw l (.loop rec)::Δ) R:=by
 intro S w vs hd hall hO
 obtain⟨g1,g2⟩:=K4 hO rfl If (hy S w vs hall)
 refine⟨rec.fn,tm vs,rec.assign,rec.body,g1,g2,?_⟩
 intro T hT c cs hret _ _
 have bc:=M.bc T hT
 let b:Frame:={ (default:Frame) with fn:=rec.fn,kind:=.normal,roundOf:=some l }
 have out:∀(j:Option Code) (a':Act) (v':VW) (k:List Item),wL P l (dK S w (.raw l (.loop rec)::Δ) R) j v'->
  ((k=[]/\j=none)\/(∃k',k= .code .ret::k'/\j=some .ret)\/(∃id k',k= .code (.exit id)::k'/\exitTo id k'=none/\j=some (.exit id))\/(∃i k',k= .code (.goto i)::k'/\gotoIn i k'=none/\j=some (.goto i)))->
  T v' (b.atR a' k) (c::cs):=λj a' v' k q hj=>bc.step _ _ _ λv1 hr=>by
  obtain⟨x,w',q1,q2,q3⟩:=q v1 hr
  obtain⟨es,e1,e2⟩:=RP (c:=c) (cs:=cs) (a:=a') (b:=b) j k rfl rfl hj q1
  exact⟨_,_,w',es,e2,q2.sub e1,hret x _ q3⟩
 have hfr:Frame.round l rec.fn (tm vs) rec.assign rec.body .normal=b.atR { tmps:=tm vs,defers:=[] } [.code rec.assign,.beginRound,.code rec.body]:=rfl
 rw [hfr]
 refine h S w _ _ (hst S w vs hd hall hO) T hT b _ (c::cs) rfl λe a' v' q=>?_
 cases e with
 |normal=>
  refine bc.step _ _ _ λv1 hr=>?_;obtain⟨w',q1,q2,q3⟩:=q v1 hr;obtain⟨es,e1,e2⟩:=L9 (b:=b) (a:=a') (k:=[.code rec.body]) (cs:=c::cs) rfl q1;refine⟨_,_,w',es,e2,q2.sub e1,q3 T hT b [] (c::cs) rfl λe a' v' q=>?_⟩;cases e with
  |normal=>exact out none a' v' [] q (.inl ⟨rfl,rfl⟩)
  |ret=>exact⟨λh=>(by cases h),λ_ k1=>out (some .ret) a' v' _ q (.inr (.inl ⟨k1,rfl,rfl⟩))⟩
  |exit id=>exact .inr ⟨rfl,rfl,λk1 hk=>out (some (.exit id)) a' v' _ q (.inr (.inr (.inl ⟨id,k1,rfl,hk,rfl⟩)))⟩
  |goto i=>exact .inr ⟨rfl,rfl,λk1 hk=>out (some (.goto i)) a' v' _ q (.inr (.inr (.inr ⟨i,k1,rfl,hk,rfl⟩)))⟩
  |panic ch=>exact q.elim
  |outgrown=>exact q.elim
 |ret=>exact q.elim
 |exit id=>exact q.elim
 |goto i=>exact q.elim
 |panic ch=>exact q.elim
 |outgrown=>exact q.elim
theorem YT.of{P:Program}{M:Md P}{N l p:Nat}{rec:Loop}{as:A}{Δ:List D}{Γ:Ga}{X:Type}{R:X->A×List D}(hp:rec.params= #[p])(hN:rec.tmps.size=N)(hpN:p < N)(hΓ:A1 rec.tmps Γ)
 (h:∀S w,JC ⟨P,N,S,w,av (.raw l (.loop rec)::Δ),some l,[],M⟩ rec.assign (bQ (ud M l rec.body (pj P l (dK S w (.raw l (.loop rec)::Δ) R))) (λ_ _ _=>False)) ((p,as)::Γ) (.raw l (.loop rec)::Δ)):
 YT M l [as] (.raw l (.loop rec)::Δ) R:=by
 refine Qg (λvs=>rec.tmps.setIfInBounds p (vs.headD undef)) (λS w vs hall w' hb=>?_) (λS w vs hd hall hO=>?_) h
 .
  obtain⟨v,vs',rfl,hv,hn⟩:=hall;have hn:vs'=[]:=hn;simp_all [run_yield]
 .
  obtain⟨v,vs',rfl,hv,hn⟩:=hall;refine⟨rfl,by simp_all,S,bD.refl hd,λb hb=>.inl hb,hO,λs r hl=>?_⟩;simp only [lk] at hl;split at hl
  .simp_all
  .rename_i e;rw [hΓ.lk hl];show _=_;simp_all
theorem O0{P:Program}{M:Md P}{N l:Nat}{rec:Loop}{S:FS}{w0:VW}{Δ0 Δ:List D}{Γ:Ga}{X:Type}{R:X->A×List D}{a:Act}{w:VW}(j:Option Code)(x:X)(k:Nat)
 (hR:R x=(.eq (.bool j.isNone),.raw l (.loop { rec with state:=if j.isNone then .ready else .done,pending:=j })::Δ.take k)) (st:St ⟨P,N,S,w0,av Δ0,some l,[],M⟩ Γ (.raw l (.loop rec)::Δ) a w):wL P l (dK S w0 Δ0 R) j w:=by
 intro v1 hr
 have st1:=st.rely hr
 obtain⟨_,_,S1,_,_,h5,_⟩:=st1
 obtain⟨r1,r2⟩:=ue (P:=P) (x:=.bool j.isNone) (ob:=.loop { rec with state:=if j.isNone then .ready else .done,pending:=j }) h5 rfl zY λw hw=>run_endRound j hw
 refine⟨_,_,r1,r2,?_⟩
 have st':=St.putRaw (.loop { rec with state:=if j.isNone then .ready else .done,pending:=j }) (st.rely hr)
 obtain⟨h1,h2,S',h3,h4,h5,h6⟩:=(SE.drop (k+1)) a _ st'
 exact⟨x,S',_,rfl,h3,by rw [hR];rfl,by simp_all,by simp_all⟩
theorem pH{P:Program}{M:Md P}{N l:Nat}{rec:Loop}{S:FS}{w0:VW}{Δ0 Δ:List D}{Γ:Ga}{X:Type}{R:X->A×List D}(x:X)(k:Nat)
 (hR:R x=(.eq (.bool true),.raw l (.loop { rec with state:=.ready,pending:=none })::Δ.take k)):
 JN ⟨P,N,S,w0,av Δ0,some l,[],M⟩ (pj P l (dK S w0 Δ0 R) .normal) Γ (.raw l (.loop rec)::Δ):=λ_ _ st=>O0 none x k hR st
@[reducible] def km(rec:Loop)(j:Option Code):Loop:={ rec with state:=if j.isNone then .ready else .done,pending:=j }
def yd(j:Option Code)(M:Prop)(N:Code->Prop):Prop:=match j with
 |none=>M
 |some jc=>N jc
theorem ux{b:Bool}{M:Prop}{N:Code->Prop}(h0:b=false->M)(h1:b=true->N .ret):yd (cond b (some .ret) none) M N:=by
 cases b
 .exact h0 rfl
 .exact h1 rfl
def ij(dl:Nat):Deferred:={ target:=.collected dl,args:= #[] }
theorem Fe{f:Operand}{g:FuncId}{us:Array Value}{y:Value}{ρ:Operand->Value}(h1:ρ f= .func (.func g) #[] us)(h2:ρ (.const y)=y):
 (do let d<-resolve ρ { callee:=.value f,args:= #[.const y],argTypes:= #[] } 0;invoke d.target d.args:Sem Next)=callFunc g (#[y]++us):=by
 grind [resolve,Deferred.ofValue,invoke]
section
variable {P:Program}{b:Frame}{a:Act}{k:List Item}{cs:List Frame}{w:World}
theorem qI{g:FuncId}{args:Array Value}(hen:ai P g)(w:World):(callFunc g args).runT P w #[]=(.ok (.enter g args) w, #[]):=by
 obtain⟨fn,h1,h2,h3⟩:=hen
 show((match P.funcs[g]? with
  |none=>stuck "call: no such function"
  |some fn=>if fn.name == "runtime.NumGoroutine" then pure .numGoroutine else if fn.body.isNone then _ else pure (.enter g args):Sem Next)).runT P w #[]=_
 rw [h1];simp only [h2,h3,Bool.false_eq_true,if_false];rfl
theorem L1{f:Operand}{g:FuncId}{us:Array Value}{ps:Array Tmp}{asg bd:Code}(hb:b.roundOf=none)(hf:a.eval f= .func (.func g) #[] us)(hen:ai P g):
 ∃es,(∀e∈es,e∈(Instr.enterLoop b.fn a.tmps ps asg bd none).events P w #[])/\∀main,stepG P main (Gr (b.atR a (.code (.rangeFunc f ps asg bd)::k)) cs) w=
  .go (Gr (Frame.enter P g (#[.func (.yield (w.heap.size+1)) #[] #[]]++us) .normal) (b.atR { a with defers:=ij w.heap.size::a.defers } (.inRangeFunc (w.heap.size+1)::k)::cs))
   ((w.alloc (.deferred (some []))).alloc (.loop { state:=.ready,pending:=none,fn:=b.fn,tmps:=a.tmps,params:=ps,assign:=asg,body:=bd,defers:=w.heap.size })) es:=by
 refine⟨seen P b.fn ((Instr.enterLoop b.fn a.tmps ps asg bd none).events P w #[])++seen P b.fn (if b.kind == .early then #[] else #[]),λe hm=>?_,λmain=>?_⟩
 .
  rcases Array.mem_append.1 hm with hm |hm
  .exact Conc.mem_seen hm
  .have:=Conc.mem_seen hm;simp_all
 .
  have hrT:(Instr.enterLoop b.fn a.tmps ps asg bd none).runT P w #[]=(.ok (w.heap.size+1,[ij w.heap.size]) ((w.alloc (.deferred (some []))).alloc (.loop { state:=.ready,pending:=none,fn:=b.fn,tmps:=a.tmps,params:=ps,assign:=asg,body:=bd,defers:=w.heap.size })),(Instr.enterLoop b.fn a.tmps ps asg bd none).events P w #[]):=by
   rw [Sem.runT_eq,run_enterLoop_outer];rfl
  have he1:(b.atR { a with defers:=ij w.heap.size::a.defers } (.inRangeFunc (w.heap.size+1)::k)).eval f= .func (.func g) #[] us:=by rw [Frame.eval_atR];exact hf
  have hsem:=Fe (y:=.func (.yield (w.heap.size+1)) #[] #[]) he1 rfl;simp only [Frame.atR,hb] at hsem;simp only [stepG,stepG.exec,Frame.atR,hb,hrT,cons_append,nil_append,hsem,stepG.apply,if_true,qI hen,GStep.after,append_empty]
theorem CM{l:Nat}{j:Option Code}{w':World}(hr:(Instr.endLoop l).run P w= .ok j w'):∃es,(∀e∈es,e∈(Instr.endLoop l).events P w #[])/\∀main,stepG P main (Gr (b.atR a (.endRangeFunc l::k)) cs) w= .go (Gr (b.atR a ((j.map Item.code).toList++k)) cs) w' es:=by
 refine⟨seen P b.fn ((Instr.endLoop l).events P w #[]),λe hm=>Conc.mem_seen hm,λmain=>?_⟩;simp [stepG,stepG.exec,Frame.atR,hr,GStep.after]
theorem PQ{fr:Frame}{dl:Nat}{ds calls:List Deferred}{w':World}(hm:fr.mode= .returning)(hd:fr.defers=ij dl::ds)(hr:(Instr.takeDeferred dl).run P w= .ok calls w'):
 ∃es,(∀e∈es,e∈(Instr.takeDeferred dl).events P w #[])/\∀main,stepG P main (Gr fr cs) w= .go (Gr { fr with defers:=calls++ds } cs) w' es:=by
 refine⟨seen P fr.fn ((Instr.takeDeferred dl).events P w #[]),λe hm=>Conc.mem_seen hm,λmain=>?_⟩
 simp_all [stepG,unwind,ij,GStep.after]
end
theorem yy{b:Frame}{a:Act}{k:List Item}{l:Nat}{x:Value}:(b.atR a (.inRangeFunc l::k)).finish x=b.atR a (.endRangeFunc l::k):=rfl
theorem rZ{c:Cx}{Q:Exit->Act->VW->Prop}{Γ:Ga}{Δ F:List D}{s g:Nat}{ps:Array Nat}{cs:List Value}{asg bd:Code}{X:Type}{J:X->Option Code}{E:X->List D}{r0:X->A}(hrd:c.rd=none)
 (hl:lk Γ s=some (.eq (.func (.func g) #[] cs.toArray))) (hen:ai c.P g)
 (hcall:∀(rec:Loop),rec.params=ps->rec.assign=asg->rec.body=bd->rec.state= .ready->rec.pending=none->rec.tmps.size=c.N->(∀s v,lk Γ s=some (.eq v)->rec.tmps.getD s undef=v)->∀l,
  cz c.M g (.eq (.func (.yield l) #[] #[])::cs.map .eq) (.raw l (.loop rec)::Δ) (λx=>(r0 x,.raw l (.loop (km rec (J x)))::E x)))
 (hnext:∀dl x,yd (J x) (JN { c with dfs:=ij dl::c.dfs } (Q .normal) Γ (.raw dl (.deferred (some []))::(E x++F)))
  (λjc=>JC { c with dfs:=ij dl::c.dfs } jc Q Γ (.raw dl (.deferred (some []))::(E x++F)))):JC c (.rangeFunc (.tmp s) ps asg bd) Q Γ (Δ++F):=by
 intro a w0 st0 T hT b k fs hb hq
 have bc:=c.M.bc T hT
 have hb0:b.roundOf=none:=hb.trans hrd
 refine bc.step _ _ _ λw hrel=>?_
 obtain⟨h1,h2,S,h3,h4,h5,h6⟩:=st0.rely hrel
 have hv:a.eval (.tmp s)= .func (.func g) #[] cs.toArray:=h6 s _ hl
 obtain⟨es,e1,e2⟩:=L1 (k:=k) (cs:=fs) (w:=w.toWorld) (ps:=ps) (asg:=asg) (bd:=bd) hb0 hv hen
 let dl:=w.heap.size
 let rec0:Loop:={ state:=.ready,pending:=none,fn:=b.fn,tmps:=a.tmps,params:=ps,assign:=asg,body:=bd,defers:=dl }
 let w1:World:=(w.alloc (.deferred (some []))).alloc (.loop rec0)
 have hsz1:(w.alloc (.deferred (some []))).heap.size=dl+1:=by simp [dl]
 have hd1:∀b,S b->b < (w.alloc (.deferred (some []))).heap.size:=λb hb=>by have:=h3.dom b hb;omega
 have hK1:∀x,x < w.heap.size->w1.heap[x]? =w.heap[x]? :=λx hx=>
  (gB (w.alloc (.deferred (some []))) (.loop rec0) x (by omega)).trans (gB w (.deferred (some [])) x hx)
 have hG:eP w w1 es:=by
  have h0:aS [] S w:=h5.re uO (λb hb=>(cx hb).elim) (λ_ h=>.inl h);have hrun:∀w':World,∃x w1,(Instr.enterLoop b.fn a.tmps ps asg bd none).run c.P w'= .ok x w1:=λw'=>⟨_,_,run_enterLoop_outer ..⟩;obtain⟨x,w',r1,r2⟩:=h0.sg (λd hd=>by simp at hd) yi (hrun _);rw [run_enterLoop_outer] at r1;cases r1;exact⟨λx hx _=>hK1 x hx,by grind,.refl _,rfl,rfl,λe he=>r2 e (e1 e he)⟩
 refine⟨_,_,w1,es,e2,hG,?_⟩
 have hA:=(h5.alloc h3.dom (.deferred (some []))).alloc hd1 (.loop rec0)
 have hS1:bD c.X c.S0 c.w0 S (w.upd w1):=(h3.trans (bD.of (fU (X:=λ_=>False) h3.dom _)) (λb hb=>hb.elim)).trans (bD.of (v:=w.upd (w.alloc (.deferred (some [])))) (fU (X:=λ_=>False) hd1 _)) (λb hb=>hb.elim)
 have hd2:∀b,S b->b < w1.heap.size:=hS1.dom
 have hA:aS (.raw (dl+1) (.loop rec0):: .raw dl (.deferred (some []))::(Δ++F)) S (w.upd w1):=by
  grind
 have hp:(D.raw (dl+1) (.loop rec0):: .raw dl (.deferred (some []))::(Δ++F)).Perm ((.raw (dl+1) (.loop rec0)::Δ)++(.raw dl (.deferred (some []))::F)):=by
  refine List.Perm.cons _ ?_;exact(perm_middle (l₁:=Δ)).symm
 have hO:=hA.perm hp
 have hOc:aS (.raw (dl+1) (.loop rec0)::Δ) S (w.upd w1):=hO.part
 have hfeet:∀b,av ((D.raw (dl+1) (.loop rec0)::Δ)++(.raw dl (.deferred (some []))::F)) b->c.X b\/c.w0.heap.size≤b:=λb ⟨d,hd,e⟩=>by
  have hle:c.w0.heap.size≤dl:=h3.size;rcases List.mem_append.1 hd with hd |hd
  .rcases mem_cons.1 hd with rfl |hd
   .grind [D.foot,Option.some.injEq]
   .exact h4 b ⟨d,List.mem_append.2 (.inl hd),e⟩
  .rcases mem_cons.1 hd with rfl |hd
   .simp_all [D.foot,Option.some.injEq]
   .exact h4 b ⟨d,List.mem_append.2 (.inr hd),e⟩
 have hG1:∀s r,lk Γ s=some r->r.holds S w1 (a.tmps.getD s undef):=λs r hl=>A.mono (λ_ h=>h) (λb hb=>hK1 b (h3.dom b hb)) r (h6 s r hl)
 have heq:∀vs:List Value,fM S w1 (vs.map .eq) vs:=λvs=>by
  induction vs with
  |nil=>rfl
  |cons v vs ih=>exact⟨v,vs,rfl,rfl,ih⟩
 have hca:=hcall rec0 rfl rfl rfl rfl rfl h2 (λs v hl=>h6 s _ hl) (dl+1) .normal (λe=>nomatch e) S (w.upd w1) (.func (.yield (dl+1)) #[] #[]::cs) hd2 ⟨_,_,rfl,rfl,heq cs⟩ hOc
 have harg:(#[Value.func (.yield (w.heap.size+1)) #[] #[]]++cs.toArray)=(.func (.yield (dl+1)) #[] #[]::cs).toArray:=by simp [dl]
 rw [harg]
 refine hca T hT _ λe w' fr he hf hk hlv=>?_
 obtain⟨x,S',v,rfl,g1,_,g3,g4⟩:=he
 refine pr bc hlv hk ?_
 rw [yy]
 have hO2:=hO.frame hd2 g1 g3 g4
 have hS2:=hS1.trans g1 λb ⟨d,hd,e⟩=>hfeet b ⟨d,List.mem_append.2 (.inl hd),e⟩
 have hK2:gr S w1 w':=λb hb=>g1.keep b (hd2 b hb) (hOc.sees b hb) λhx=>(hOc.own b hx).1 hb
 have hfeet2:∀b,av (.raw (dl+1) (.loop (km rec0 (J x)))::E x++(.raw dl (.deferred (some []))::F)) b->c.X b\/c.w0.heap.size≤b:=λb ⟨d,hd,e⟩=>by
  rcases List.mem_append.1 hd with hd |hd
  .rcases g4 b ⟨d,hd,e⟩ with hh |hh
   .obtain⟨d',hd',e'⟩:=hh;exact hfeet b ⟨d',List.mem_append.2 (.inl hd'),e'⟩
   .exact .inr (Nat.le_trans hS1.size hh)
  .exact hfeet b ⟨d,List.mem_append.2 (.inr hd),e⟩
 have hst:St { c with dfs:=ij dl::c.dfs } Γ (.raw (dl+1) (.loop (km rec0 (J x)))::(E x++(.raw dl (.deferred (some []))::F))) { a with defers:=ij w.heap.size::a.defers } w':=
  ⟨by simp_all,h2,S',hS2,hfeet2,hO2,λs r hl=>A.mono g1.sub hK2 r (hG1 s r hl)⟩
 refine bc.step _ _ _ λv1 hr1=>?_
 have hst1:=hst.rely hr1
 obtain⟨_,_,S3,p3,_,p5,_⟩:=hst1
 have hnb:(km rec0 (J x)).state≠.busy:=by
  grind
 obtain⟨r1,r2⟩:=ue (P:=c.P) (ob:=.loop { km rec0 (J x) with state:=.exhausted }) p5 rfl Ce λw hw=>run_endLoop hw hnb
 obtain⟨es',e1',e2'⟩:=CM (b:=b) (a:={ a with defers:=ij w.heap.size::a.defers }) (k:=k) (cs:=fs) r1
 refine⟨_,_,_,es',e2',r2.sub e1',?_⟩
 have hst2:=(hst.rely hr1).putRaw (.loop { km rec0 (J x) with state:=.exhausted })
 have hp2:(E x++(D.raw dl (.deferred (some []))::F)).Perm (.raw dl (.deferred (some []))::(E x++F)):=perm_middle
 obtain⟨q1,q2,S2,q3,q4,q5,q6⟩:=hst2
 have hst3:St { c with dfs:=ij dl::c.dfs } Γ (.raw dl (.deferred (some []))::(E x++F)) { a with defers:=ij w.heap.size::a.defers } (v1.upd (v1.putObj (dl+1) (.loop { km rec0 (J x) with state:=.exhausted }))):=by
  refine⟨q1,q2,S2,q3,λb hb=>?_,q5.tail.perm hp2,q6⟩;rw [nc hp2.symm] at hb;obtain⟨d,hd,e⟩:=hb;exact q4 b ⟨d,mem_cons_of_mem _ hd,e⟩
 have hn:=hnext dl x
 have hpe:(km rec0 (J x)).pending=J x:=rfl
 rw [hpe]
 cases hj:J x with
 |none=>
  unfold yd at hn;rw [hj] at hn hst3;exact hq _ _ _ (hn _ _ hst3)
 |some cc=>
  unfold yd at hn;rw [hj] at hn hst3;exact hn _ _ hst3 T hT b k fs hb hq
def pC(P:Program)(fn:Func)(R:Ending->VW->Prop):Exit->Act->VW->Prop
 | .ret,a,v=>cg P fn R .ret a v\/∃dl,a.defers=[ij dl]/\∀v1,bu v v1->∃w',(Instr.takeDeferred dl).run P v1= .ok [] w'/\eP v1 w' ((Instr.takeDeferred dl).events P v1 #[])/\cg P fn R .ret { a with defers:=[] } (v1.upd w')
 | .normal,a,v=>cg P fn R .ret a v\/∃dl,a.defers=[ij dl]/\∀v1,bu v v1->∃w',(Instr.takeDeferred dl).run P v1= .ok [] w'/\eP v1 w' ((Instr.takeDeferred dl).events P v1 #[])/\cg P fn R .ret { a with defers:=[] } (v1.upd w')
 | .panic chain,a,v=>a.defers=[]/\R (.panicked chain) v
 |_,_,_=>False
theorem A9{c:Cx}{P:Program}{fn:Func}{R:Ending->VW->Prop}{Γ:Ga}{Δ:List D}(h:JN c (cg P fn R .ret) Γ Δ):JN c (pC P fn R .ret) Γ Δ:=λa w st=>.inl (h a w st)
theorem EQ{P:Program}{M:Md P}{N dl:Nat}{S:FS}{w0:VW}{X:Nat->Prop}{fn:Func}{R:Ending->VW->Prop}{Γ:Ga}{Δ:List D}(h:JN ⟨P,N,S,w0,X,none,[],M⟩ (cg P fn R .ret) Γ Δ):
 JN ⟨P,N,S,w0,X,none,[ij dl],M⟩ (pC P fn R .ret) Γ (.raw dl (.deferred (some []))::Δ):=by
 intro a w st
 refine .inr ⟨dl,st.1,λv1 hr=>?_⟩
 have st1:=st.rely hr
 obtain⟨_,_,S1,_,_,p5,_⟩:=st1
 obtain⟨r1,r2⟩:=ue (P:=P) (x:=([]:List Deferred)) (ob:=.deferred none) p5 rfl t6 λw hw=>run_takeDeferred hw
 refine⟨_,r1,r2,?_⟩
 have st2:=(st.rely hr).putRaw (.deferred none)
 obtain⟨h1,h2,S',h3,h4,h5,h6⟩:=st2
 exact h _ _ ⟨rfl,h2,S',h3,λb ⟨d,hd,e⟩=>h4 b ⟨d,mem_cons_of_mem _ hd,e⟩,h5.tail,h6⟩
theorem St.entry{P:Program}{M:Md P}{as:List A}{Δ:List D}{N:Nat}{S:FS}{w:VW}{vs:List Value}(hn:ble as.length N=true)(hd:∀b,S b->b < w.heap.size)(hall:fM S w as vs)(hO:aS Δ S w):
 St ⟨P,N,S,w,av Δ,none,[],M⟩ (entry 0 as) Δ { tmps:=vs.toArray++Array.replicate (N - vs.toArray.size) undef,defers:=[] } w:=by
 have hn:=le_of_ble_eq_true hn
 refine⟨rfl,?_,S,bD.refl hd,λb hb=>.inl hb,hO,λs r hl=>?_⟩
 .
  have:=hall.length;simp_all
 .
  obtain⟨j,e,hj,hr⟩:=qH hall hl;have e':s=j:=by omega
  subst e'
  have e2:(vs.toArray++Array.replicate (N - vs.toArray.size) undef).getD s undef=vs.getD s undef:=by
   simp [getD_eq_getD_getElem?,Array.getElem?_append,hj]
  grind
theorem enter_at{P:Program}{f:Nat}{fn:Func}{C:Code}{args:Array Value}{kind:CallKind}(hf:P.funcs[f]? =some fn)(hb:fn.body=some C):
 Frame.enter P f args kind=Frame.atR { (default:Frame) with fn:=f,kind:=kind } { tmps:=args++Array.replicate (fn.ntmps - args.size) undef,defers:=[] } [.code C]:=by
 simp [Frame.enter,Frame.atR,hf,hb]
 rfl
theorem vF{P:Program}{M:Md P}{f:Nat}{fn:Func}{C:Code}{as:List A}{Δ:List D}{X:Type}{R:X->A×List D}(N:Nat)(hf:P.funcs[f]? =some fn)(hb:fn.body=some C)(hN:fn.ntmps=N)(hn:ble as.length N=true)
 (h:∀S w0,JC ⟨P,N,S,w0,av Δ,none,[],M⟩ C (pC P fn (dK S w0 Δ R)) (entry 0 as) Δ):cz M f as Δ R:=by
 subst hN
 intro kind hkind S w vs hd hall hO T hT cs hc
 have bc:=M.bc T hT
 rw [enter_at hf hb]
 refine h S w _ _ (St.entry hn hd hall hO) T hT _ [] cs rfl λe a' v' q=>?_
 have fin:∀(a':Act) (v':VW) todo,cg P fn (dK S w Δ R) .ret a' v'->T v' { Frame.atR { (default:Frame) with fn:=f,kind:=kind } a' todo with mode:=.returning } cs:=λa' v' todo ⟨q1,x,q2,q3⟩=>hc _ _ _ q3 rfl rfl ⟨rfl,q1,fn,hf,q2⟩
 have finM:∀todo,(cg P fn (dK S w Δ R) .ret a' v'\/∃dl,a'.defers=[ij dl]/\∀v1,bu v' v1->∃w',(Instr.takeDeferred dl).run P v1= .ok [] w'/\eP v1 w' ((Instr.takeDeferred dl).events P v1 #[])/\cg P fn (dK S w Δ R) .ret { a' with defers:=[] } (v1.upd w'))->
  T v' { Frame.atR { (default:Frame) with fn:=f,kind:=kind } a' todo with mode:=.returning } cs:=λtodo q=>by
  rcases q with q |⟨dl,q1,q2⟩
  .
   simp_all
  .
   refine bc.step _ _ _ λv1 hr=>?_;obtain⟨w',p1,p2,p3⟩:=q2 v1 hr;obtain⟨es,e1,e2⟩:=PQ (P:=P) (fr:={ Frame.atR { (default:Frame) with fn:=f,kind:=kind } a' todo with mode:=.returning }) (cs:=cs) (ds:=[]) rfl q1 p1;exact⟨_,_,w',es,e2,p2.sub e1,fin { a' with defers:=[] } _ todo p3⟩
 cases e with
 |normal=>exact bc.move (λ_ _=>xf rfl) (finM _ q)
 |ret=>exact⟨λ_ todo=>finM todo q,λh=>by cases h⟩
 |panic chain=>exact λtodo=>hc _ _ _ q.2 rfl rfl ⟨rfl,q.1,fn,hf⟩
 |exit id=>exact q.elim
 |goto l=>exact q.elim
 |outgrown=>exact q.elim
theorem TG{P:Program}{f:Nat}{fn:Func}{C:Code}{as:List A}{Δ:List D}{X:Type}{R:X->A×List D}(N:Nat)(hf:P.funcs[f]? =some fn)(hb:fn.body=some C)(hN:fn.ntmps=N)(hn:ble as.length N=true)
 (h:∀{M:Md P} (S:FS) (w0:VW),JC ⟨P,N,S,w0,av Δ,none,[],M⟩ C (pC P fn (dK S w0 Δ R)) (entry 0 as) Δ):dG P f as Δ R:=λ_=>vF N hf hb hN hn h
section
variable {c:Cx}{ops:Array Oper}{o:Oper}{l:List Oper}{Q:Exit->Act->VW->Prop}{Γ Γ':Ga}{Δ Δ' F E pre pre':List D}{N:List (Operand×A)}{d:Nat}{X:Type}{R:X->A×List D}{r:A}
theorem A8(hg:o.guard=none)(hd:o.dst=some d)(hdN:blt d c.N=true)(ht:bB c.M o N Δ R)(hh:ek Γ N)(h:∀x,JO c ops l Q ((d,(R x).1)::Γ) (R x).2):JO c ops (o::l) Q Γ Δ:=by
 have:=aO (c:=c) (ops:=ops) (o:=o) (l:=l) (Q:=Q) (Γ:=Γ) (Δ:=Δ) (F:=[]) (N:=N) (d:=d) (R:=R) (λ_ _ _=>ag hg _) hd hdN ht hh (λx=>by simp_all);simp_all
theorem JP(pre:List D)(hg:o.guard=none)(hd:o.dst=some d)(hdN:blt d c.N=true)(ht:bB c.M o N Δ R)(hh:ek Γ N)(h:∀x,JO c ops l Q ((d,(R x).1)::Γ) (pre++(R x).2)):JO c ops (o::l) Q Γ (pre++Δ):=by
 have h1:JO c ops (o::l) Q Γ (Δ++pre):=aO (λ_ _ _=>ag hg _) hd hdN ht hh (λx a w st=>h x a w (st.perm perm_append_comm));exact λa w st=>h1 a w (st.perm perm_append_comm)
theorem jV{Δ Δ':List D}(h:∀d∈Δ',d∈Δ){b:Nat}:av Δ' b->av Δ b:=λ⟨d,hd,e⟩=>⟨d,h d hd,e⟩
theorem lq{ks:List Nat}(hk:fx Δ ks=some Δ'):∀d∈Δ',d∈Δ:=by grind [je,List.mem_of_getElem?]
theorem gR.pick{S:FS}{w:World}{ks:List Nat}(hk:fx Δ ks=some Δ')(hn:ks.Nodup)(h:gR Δ S w):gR Δ' S w:=
 ⟨λd hd=>h.holds d (lq hk d hd),λb hb=>h.own b (jV (lq hk) hb),iW (λa b hab x e e'=>hab x e' e) h.apart hn hk⟩
theorem aS.pick{S:FS}{w:VW}{ks:List Nat}(hk:fx Δ ks=some Δ')(hn:ks.Nodup)(h:aS Δ S w):aS Δ' S w:=h.re (h.p.pick hk hn) (λ_ hb=>jV (lq hk) hb) λ_ h=>.inl h
theorem dL(pre:List D)(E:List D)(ks:List Nat)(hs:GH Γ' Γ)(hk:fx pre ks=some pre')(hn:ks.Nodup:=by decide):SE c Γ (pre++E) Γ' (pre'++E):=by
 rintro a w ⟨h1,h2,S,h3,h4,h5,h6⟩;have hm:=lq hk;have hap:=pairwise_append.1 h5.apart;have hO:gR pre' S w:=gR.pick hk hn h5.part.p
 have hsub:∀d∈pre'++E,d∈pre++E:=λd hd=>by
  grind
 exact⟨h1,h2,S,h3,λb hb=>h4 b (jV hsub hb),h5.re ⟨λd hd=>h5.holds d (hsub d hd),λb hb=>h5.own b (jV hsub hb),pairwise_append.2 ⟨hO.apart,hap.2.1,λd hd d' hd'=>hap.2.2 d (hm d hd) d' hd'⟩⟩ (λb hb=>jV hsub hb) (λ_ h=>.inl h),λs r hl=>h6 s r (hs.lk hl)⟩
theorem dK.pick{S:FS}{w:VW}{X:Type}{R R':X->A×List D}{ks ks2:List Nat}(hk:fx Δ ks=some Δ')(h1:∀x,(R' x).1=(R x).1)(hk2:∀x,fx (R' x).2 ks2=some (R x).2)(hn2:ks2.Nodup){e:Ending}{w':VW}
 (h:dK S w Δ' R' e w'):dK S w Δ R e w':=by
 obtain⟨x,S',v,he,g1,g2,g3,g4⟩:=h
 refine⟨x,S',v,he,g1.mono (λb hb=>jV (lq hk) hb),by simp_all,g3.pick (hk2 x) hn2,λb hb=>?_⟩
 rcases g4 b (jV (lq (hk2 x)) hb) with hh |hh
 .
  grind [jV,lq]
 omega
theorem cz.pick{P:Program}{M:Md P}{M:Md P}{f:Nat}{as:List A}{X:Type}{R R':X->A×List D}(ks ks2:List Nat)(h:cz M f as Δ' R')(hk:fx Δ ks=some Δ')(hk2:∀x,fx (R' x).2 ks2=some (R x).2)(h1:∀x,(R' x).1=(R x).1)
 (hn:ks.Nodup:=by decide) (hn2:ks2.Nodup:=by decide):cz M f as Δ R:=
 λk he S w vs hd hall hO=>(h k he S w vs hd hall (hO.pick hk hn)).mono λ_ _ hh=>dK.pick hk h1 hk2 hn2 hh
theorem dG.pick{P:Program}{M:Md P}{f:Nat}{as:List A}{X:Type}{R R':X->A×List D}(ks ks2:List Nat)(h:dG P f as Δ' R')(hk:fx Δ ks=some Δ')(hk2:∀x,fx (R' x).2 ks2=some (R x).2)(h1:∀x,(R' x).1=(R x).1)
 (hn:ks.Nodup:=by decide) (hn2:ks2.Nodup:=by decide):dG P f as Δ R:=λM=>cz.pick (M:=M) ks ks2 (h M) hk hk2 h1 hn hn2
theorem YT.pick{P:Program}{M:Md P}{i:Nat}{as:List A}{X:Type}{R R':X->A×List D}(ks ks2:List Nat)(h:YT M i as Δ' R')(hk:fx Δ ks=some Δ')(hk2:∀x,fx (R' x).2 ks2=some (R x).2)(h1:∀x,(R' x).1=(R x).1)
 (hn:ks.Nodup:=by decide) (hn2:ks2.Nodup:=by decide):YT M i as Δ R:=λS w vs hd hall hO=>by
 obtain⟨fn,tm,asg,bd,g1,g0,g2⟩:=h S w vs hd hall (hO.pick hk hn)
 exact⟨fn,tm,asg,bd,g1,g0,g2.mono λ_ _ hh=>dK.pick hk h1 hk2 hn2 hh⟩
theorem tG{b:Nat}{ob:Obj}(p:Obj->Prop)(hp:p ob):SE c Γ (.raw b ob::F) Γ (.inv b p::F):=λa w h=>
 h.swap (d:=.raw b ob) (d':=.inv b p) (λb'=>Iff.rfl) λS hs=>⟨ob,hs,hp⟩
theorem um{P:Program}{M:Md P}{S:FS}{w0:VW}{Δ0:List D}{X:Type}{R:X->A×List D}{N:Nat}{fn:Func}(x:X)(rs:List A)
 (hr:xC P Γ Δ fn.results.toList rs) (hR:R x=(bO rs,Δ)):JN ⟨P,N,S,w0,av Δ0,none,[],M⟩ (cg P fn (dK S w0 Δ0 R) .ret) Γ Δ:=
 aQ x rs Δ.length hr (by simp_all)
end
def qX{σ α:Type}(Y:σ->α->Option (σ×Bool)):σ×Bool->α->Option ((σ×Bool)×Bool)
 |(_,true),_=>none
 |(s,false),p=>(Y s p).bind λr=>some ((r.1, !r.2),r.2)
theorem uy{σ α:Type}{Y:σ->α->Option (σ×Bool)}{q:σ×Bool}{p:α}{r:(σ×Bool)×Bool}(h:qX Y q p=some r):∃r',q.2=false/\Y q.1 p=some r'/\r=((r'.1, !r'.2),r'.2):=by
 obtain⟨s,b⟩:=q;cases b with
 |true=>cases h
 |false=>
  simp only [qX] at h;cases hY:Y s p with
  |none=>simp_all
  |some r'=>simp_all
@[reducible] def QH(b:Bool):Option Code:=cond b (some .ret) none
section
variable {P:Program}{M:Md P}{o:Oper}{x y:Operand}{T T' e:TypeId}{t:Ty}
end
section
variable {c:Cx}{Γ:Ga}{F:List D}{T:TypeId}{t:Ty}
end
section
variable {P:Program}{M:Md P}{o:Oper}{y:Operand}{T:TypeId}
def CH(s:ByteArray)(i:Int):Option UInt8:=if 0≤i then s[i.toNat]? else none
theorem zP{s:ByteArray}{k:IntKind}{i:Int}{b:UInt8}(ho:o.op= .index T (.const (.string s)) y)(hT:P.underlying T=some .string)(hd:CH s i=some b):
 bB M o [(y,.eq (.int k i))] [] (λ_:Unit=>(.eq (.int .u8 b.toNat),[])):=
 .val0 λS w a hN=>by
  have e1:a.eval y= .int k i:=hN.1
  have e2:a.eval (.const (.string s))= .string s:=rfl
  refine⟨.int .u8 b.toNat,?_,rfl⟩
  unfold CH at hd
  simp_all [Instr.index,asIntOf,Sem.run_bind,Sem.run_pure,Result.andThen_ok,run_underlying,execOp]
end
def yP(P:Program)(k:TypeId)(R:Value->Int->Prop)(o:Obj):Prop:=
 ∃es cl,o= .map es cl/\∀e∈es.toList,(∃lt,keyOf P k e.key=some lt)/\kU e.key=true/\∃n,e.val= .int .i64 n/\R e.key n
theorem yP.nil{P:Program}{k:TypeId}{R:Value->Int->Prop}:yP P k R (.map #[] 0):=⟨#[],0,rfl,by simp⟩
section
variable {P:Program}{M:Md P}{o:Oper}{x y v:Operand}{T T' k e:TypeId}{R:Value->Int->Prop}{kv:Value}
theorem yP.calm{P:Program}{k:TypeId}{R:Value->Int->Prop}{o:Obj}(h:yP P k R o):calm o=true:=by
 obtain⟨es,cl,rfl,h⟩:=h;show(es.toList.all λe=>kU e.key)=true;simp_all
theorem f5{w:World}{z:Nat}{es:Array MapEntry}{cl:Nat}(h:w.heap[z]? =some (.map es cl)):(getObj z).run P w= .ok (.map es cl) w:=by simp [getObj,Sem.run,h]
theorem lm{w:World}{z:Nat}{es:Array MapEntry}{cl:Nat}(o:Obj)(h:w.heap[z]? =some (.map es cl)):(setObj z o).run P w= .ok () (w.putObj z o):=by simp [setObj,Sem.run,h,World.putObj]
theorem D2{b:Bool}{ρ:Operand->Value}(ho:o.op= .lookup T x y b)(h:kU (ρ y)=true):Ns P (execOp ρ o):=by
 grind [execOp,iP,Ft]
theorem DX{ρ:Operand->Value}(ho:o.op= .mapUpdate T x y v)(h:kU (ρ y)=true):Ns P (execOp ρ o):=by
 grind [execOp,Py,yg]
end
theorem Dq{c:Cx}{C:Code}{Q:Exit->Act->VW->Prop}{Γ:Ga}{F:List D}{z:Nat}{p:Obj->Prop}(h:∀ob,p ob->JC c C Q Γ (.raw z ob::F)):JC c C Q Γ (.inv z p::F):=by
 intro a w st
 obtain⟨ob,h1,h2⟩:∃o,w.heap[z]? =some o/\p o:=by
  obtain⟨_,_,S,_,_,h5,_⟩:=st;exact h5.holds _ (mem_cons_self ..)
 exact h ob h2 a w (st.swap (d:=.inv z p) (d':=.raw z ob) (λb'=>Iff.rfl) λS _=>h1)
theorem Jv{P:Program}{M:Md P}{N l p:Nat}{rec:Loop}{cA cB:Code}(hcA:rec.assign=cA)(hcB:rec.body=cB){as:A}{Δ:List D}{Γ:Ga}{X:Type}{R:X->A×List D}(hp:rec.params= #[p])(hN:rec.tmps.size=N)(hpN:p < N)(hΓ:A1 rec.tmps Γ)
 (h:∀S w,JC ⟨P,N,S,w,av (.raw l (.loop rec)::Δ),some l,[],M⟩ cA (bQ (ud M l cB (pj P l (dK S w (.raw l (.loop rec)::Δ) R))) (λ_ _ _=>False)) ((p,as)::Γ) (.raw l (.loop rec)::Δ)):
 YT M l [as] (.raw l (.loop rec)::Δ) R:=by
 grind [YT.of]
section
variable {c:Cx}{Q:Exit->Act->VW->Prop}{Γ Γ':Ga}{Δ Δ':List D}{C:Code}
@[reducible] def Vy{α β:Type}(x:α×β):(α ⊕ Value)×β:=(.inl x.1,x.2)
theorem zH{α β:Type}{R:α->List Value->Prop}{R':β->List Value->Prop}{f:α->β}(h:∀x cs,R x cs->R' (f x) cs):∀{l:List α} {cs:List Value},dA R l cs->dA R' (l.map f) cs
 |[],_,e=>e
 |_::_,_,⟨c1,c2,e,h1,h2⟩=>⟨c1,c2,e,h _ _ h1,zH h h2⟩
section
variable {u r:Ty}{v:Value}{T:TypeId}{F:List D}
end
end
def ik(v:Value)(r:Bool):List PanicEntry:=[{ v:=v,recovered:=r }]
def MI(g b:Nat):Deferred:={ target:=.fn (.func g) #[.pointer (some ⟨b,0,none⟩)],args:= #[] }
section
variable {P:Program}{a:Act}{cs:List Frame}{w:World}
theorem FD{b:Frame}{k:List Item}{ops:Array Oper}{i:Nat}{rest:List Nat}{o:Oper}(hb:b.roundOf=none)(ho:ops[i]? =some o)(hw:Region.wanted o (yielded ops a.tmps)=true)(hr:∀ρ,execOp ρ o=pure .recover):
 ∃es,(∀e∈es,e∈(#[]:Array Event))/\∀main,stepG P main (Gr (b.atR a (.inRegion ops (i::rest)::k)) cs) w=match tryRecover (b.atR a (.inRegion ops (i::rest)::k)) cs with
  |some (x,cs')=>.go (Gr (b.atR (a.put o.dst x) (.inRegion ops rest::k)) cs') w es
  |none=>.go (Gr (b.atR (a.put o.dst .nilIface) (.inRegion ops rest::k)) cs) w es:=by
 have hfin:∀x,(b.atR a (.inRegion ops (i::rest)::k)).finish x=b.atR (a.put o.dst x) (.inRegion ops rest::k):=λx=>by grind [Frame.finish_atR]
 refine⟨seen P b.fn (if b.kind == .early then #[] else #[]),λe he=>?_,λmain=>?_⟩
 .
  grind [Conc.mem_seen]
 .
  rw [vg ho hw,hb,Oper.semAt_none,hr];have hT:(pure Next.recover:Sem Next).runT P w #[]=(.ok .recover w, #[]):=rfl;have hro:(b.atR a (.inRegion ops (i::rest)::k)).roundOf=none:=hb;simp only [stepG.apply,if_true,hT,hro];cases htr:tryRecover (b.atR a (.inRegion ops (i::rest)::k)) cs with
  |none=>simp only [GStep.after,append_empty,hfin];rfl
  |some p=>obtain⟨x,cs'⟩:=p;simp only [GStep.after,append_empty,hfin];rfl
theorem As{fr:Frame}{g b:Nat}{ds:List Deferred}(m:FrameMode)(hen:ai P g)(hm:fr.mode=m)(hm':m≠.run)(hd:fr.defers=MI g b::ds):
 ∃es,(∀e∈es,e∈(#[]:Array Event))/\∀main,stepG P main (Gr fr cs) w= .go (Gr (Frame.enter P g #[.pointer (some ⟨b,0,none⟩)] .deferred) ({ fr with defers:=ds }::cs)) w es:=by
 refine⟨seen P fr.fn #[],λe he=>Conc.mem_seen he,λmain=>?_⟩
 have hi:invoke (.fn (.func g) #[.pointer (some ⟨b,0,none⟩)]) #[]=callFunc g #[.pointer (some ⟨b,0,none⟩)]:=by simp [invoke]
 grind [stepG,unwind,MI,callDeferred,qI,GStep.after]
theorem I1{fr c:Frame}{x:Value}{fn:Func}(h1:fr.mode= .returning)(h2:fr.defers=[])(hk:fr.kind= .deferred)(h3:P.funcs[fr.fn]? =some fn)(h4:(results fn fr.tmps).run P w= .ok x w)(hc:c.mode= .returning\/∃v,c.mode= .panicking (ik v true)):
 ∀main,stepG P main (Gr fr (c::cs)) w= .go (Gr { c with mode:=.returning } cs) w (seen P fr.fn ((results fn fr.tmps).events P w #[])):=λmain=>by
 rcases hc with hc |⟨v,hc⟩
 .
  have e:({ c with mode:=.returning }:Frame)=c:=by cases c;simp_all
  simp_all [stepG,unwind,doReturn,GStep.after]
 simp_all [stepG,unwind,doReturn,GStep.after,ik]
end
def lM{P:Program}(M:Md P)(g:Nat)(m:FrameMode)(Tc:TypeId)(e0 e1:Value):Prop:=
 ∀T,M.ok T->∀(b:Nat) (S:FS) (w:VW) (fr:Frame) (cs:List Frame),(∀b,S b->b < w.heap.size)->aS [.obj b Tc (.eq e0)] S w->fr.mode=m->
  (∀S' w',bD (av [.obj b Tc (.eq e0)]) S w S' w'->aS [.obj b Tc (.eq e1)] S' w'->T w' { fr with mode:=.returning } cs)->
  T w (Frame.enter P g #[.pointer (some ⟨b,0,none⟩)] .deferred) (fr::cs)
structure yY(P:Program)(g:Nat)(pv:Value)(Tc:TypeId)(e1:Value):Prop where
 enter:ai P g
 calm:∀(M:Md P) (e0:Value),lM M g .returning Tc e0 e0
 caught:∀(M:Md P) (e0:Value),lM M g (.panicking (ik pv false)) Tc e0 e1
theorem lM.of{P:Program}{M:Md P}{g d id N:Nat}{fn:Func}{o:Oper}{l:List Oper}{C:Code}{m m1:FrameMode}{val:Value}{Tc:TypeId}{e0 e1:Value}(hf:P.funcs[g]? =some fn)(hb:fn.body=some (.seq (.region id (o::l).toArray false) C))(hN:fn.ntmps=N)(hn:0 < N)
 (hg:o.guard=none) (hd:o.dst=some d) (hdN:d < N) (ho:∀ρ,execOp ρ o=pure .recover)
 (hm:∀(fr b:Frame) (cs:List Frame),b.kind= .deferred->fr.mode=m->(match tryRecover b (fr::cs) with |some (x,cs')=>x=val/\cs'={ fr with mode:=m1 }::cs |none=>val= .nilIface/\m1=m)) (hm1:m1= .returning\/∃v,m1= .panicking (ik v true))
 (h:∀(b:Nat) (S:FS) (w0:VW),JO ⟨P,N,S,w0,av [.obj b Tc (.eq e0)],none,[],M⟩ (o::l).toArray l
  (bQ (C.wk M none (cg P fn (dK S w0 [.obj b Tc (.eq e0)] (λ_:Unit=>(bO [],[.obj b Tc (.eq e1)]))))) (cg P fn (dK S w0 [.obj b Tc (.eq e0)] (λ_:Unit=>(bO [],[.obj b Tc (.eq e1)])))))
  [(d,.eq val),(0,.eq (.pointer (some ⟨b,0,none⟩)))] [.obj b Tc (.eq e0)]):lM M g m Tc e0 e1:=by
 subst hN
 intro T hT b S w fr cs hdom hO hfr hk
 have bc:=M.bc T hT
 rw [enter_at hf hb]
 refine bc.move (λ_ _=>dR) (bc.move (λ_ _=>fi) ?_)
 let a:Act:={ tmps:= #[Value.pointer (some ⟨b,0,none⟩)]++Array.replicate (fn.ntmps - 1) undef,defers:=[] }
 let fb:Frame:={ (default:Frame) with fn:=g,kind:=.deferred }
 have hst:St ⟨P,fn.ntmps,S,w,av [.obj b Tc (.eq e0)],none,[],M⟩ [(0,.eq (.pointer (some ⟨b,0,none⟩)))] [.obj b Tc (.eq e0)] a w:=
  St.entry (as:=[.eq (.pointer (some ⟨b,0,none⟩))]) (vs:=[.pointer (some ⟨b,0,none⟩)]) (by grind [ble_eq]) hdom ⟨_,_,rfl,rfl,rfl⟩ hO
 have hst2:∀v1,bu w v1->St ⟨P,fn.ntmps,S,w,av [.obj b Tc (.eq e0)],none,[],M⟩ [(d,.eq val),(0,.eq (.pointer (some ⟨b,0,none⟩)))] [.obj b Tc (.eq e0)] (a.put o.dst val) v1:=λv1 hr=>by
  obtain⟨h1,h2,S',h3,h4,h5,h6⟩:=hst.rely hr;rw [hd];refine⟨h1,by simp_all [Act.put],S',h3,h4,h5,λs r hl=>?_⟩;rw [lE (by simp_all)];simp only [lk] at hl;split at hl
  .rename_i e;cases hl;rw [if_pos e];rfl
  simp_all [if_neg,lk]
 have hsz:(o::l).toArray.size=l.length+1:=by simp
 have hlist:List.range (o::l).toArray.size=0::List.range' 1 l.length:=by rw [hsz,List.range_eq_range',List.range'_succ]
 rw [hlist]
 have go:∀v1,bu w v1->T v1 (fb.atR (a.put o.dst val) (.inRegion (o::l).toArray (List.range' 1 l.length)::[.code C])) ({ fr with mode:=m1 }::cs):=λv1 hr=>by
  have hw:=kF l 1 (ops:=(o::l).toArray) (λj=>by grind) (h b S w _ _ (hst2 v1 hr))
  have finR:∀a' v' todo,cg P fn (dK S w [.obj b Tc (.eq e0)] (λ_:Unit=>(bO [],[.obj b Tc (.eq e1)]))) .ret a' v'->T v' { fb.atR a' todo with mode:=.returning } ({ fr with mode:=m1 }::cs):=by
   rintro a' v' todo ⟨q1,x,q2,_,S',v,_,q3,_,q4,_⟩;refine bc.step _ _ _ λv1 hr=>?_;obtain⟨r1,r2⟩:=q2 v1 hr;exact⟨_,_,v1.toWorld,_,I1 (fr:={ fb.atR a' todo with mode:=.returning }) (c:={ fr with mode:=m1 }) rfl q1 rfl hf r1 hm1,r2.sub λe he=>Conc.mem_seen he,bc.rely _ _ _ _ hr (hk S' v' q3 q4)⟩
  have out:∀e a' v',e≠.normal->cg P fn (dK S w [.obj b Tc (.eq e0)] (λ_:Unit=>(bO [],[.obj b Tc (.eq e1)]))) e a' v'->∀k,nh T fb k ({ fr with mode:=m1 }::cs) e a' v':=by
   intro e a' v' he q k;cases e with
   |normal=>simp_all
   |ret=>exact⟨λ_ todo=>finR a' v' todo q,λh=>by cases h⟩
   |panic ch=>obtain⟨_,_,_,_,q2,_⟩:=q;cases q2
   |exit id=>exact q.elim
   |goto i=>exact q.elim
   |outgrown=>exact q.elim
  refine og _ hw T hT fb [.code C] _ rfl λe a' v' q=>?_;cases e with
  |normal=>
   refine q T hT fb [] _ rfl λe a' v' q=>?_
   cases e with
    |normal=>exact bc.move (λ_ _=>xf rfl) (finR a' v' [] q)
    |ret=>simp_all
    |panic ch=>simp_all
    |exit id=>simp_all
    |goto i=>simp_all
    |outgrown=>simp_all
  |ret=>exact out .ret a' v' (by simp) q _
  |panic ch=>exact out (.panic ch) a' v' (by simp) q _
  |exit id=>exact out (.exit id) a' v' (by simp) q _
  |goto i=>exact out (.goto i) a' v' (by simp) q _
  |outgrown=>exact out .outgrown a' v' (by simp) q _
 refine bc.step _ _ _ λv1 hr=>?_
 obtain⟨es,e1',e2⟩:=FD (P:=P) (a:=a) (cs:=fr::cs) (w:=v1.toWorld) (b:=fb) (k:=[.code C]) (ops:=(o::l).toArray) (i:=0) (rest:=List.range' 1 l.length) (o:=o) rfl (by simp) (ag hg _) ho
 have hm':=hm fr (fb.atR a (.inRegion (o::l).toArray (0::List.range' 1 l.length)::[.code C])) cs rfl hfr
 cases htr:tryRecover (fb.atR a (.inRegion (o::l).toArray (0::List.range' 1 l.length)::[.code C])) (fr::cs) with
 |none=>
  rw [htr] at hm' e2;obtain⟨rfl,rfl⟩:=hm';have e:({ fr with mode:=m1 }:Frame)=fr:=by cases fr;simp_all
  have:=go v1 hr;rw [e] at this;exact⟨_,_,v1.toWorld,es,e2,(eP.refl v1).sub e1',this⟩
 |some p=>
  obtain⟨x,cs'⟩:=p;rw [htr] at hm' e2;obtain⟨rfl,rfl⟩:=hm';exact⟨_,_,v1.toWorld,es,e2,(eP.refl v1).sub e1',go v1 hr⟩
def S5{P:Program}(M:Md P)(fn:Func)(R:Ending->VW->Prop)(m:FrameMode)(a:Act)(v:VW):Prop:=
 ∀T,M.ok T->∀(fr:Frame) (cs:List Frame),P.funcs[fr.fn]? =some fn->fr.mode=m->fr.defers=a.defers->fr.tmps=a.tmps->
  (∀v',cg P fn R .ret { a with defers:=[] } v'->T v' { fr with mode:=.returning,defers:=[] } cs)->T v fr cs
def pD{P:Program}(M:Md P)(fn:Func)(R:Ending->VW->Prop):Exit->Act->VW->Prop
 | .ret,a,v=>S5 M fn R .returning a v
 | .normal,a,v=>S5 M fn R .returning a v
 | .panic ch,a,v=>S5 M fn R (.panicking ch) a v
 |_,_,_=>False
section
variable {P:Program}{M:Md P}{N:Nat}{S:FS}{w0:VW}{X:Nat->Prop}{ops:Array Oper}{o:Oper}{l:List Oper}{Q:Exit->Act->VW->Prop}{Γ:Ga}{Δ F:List D}{b g s:Nat}{T Tc:TypeId}{fn:Func}{R:Ending->VW->Prop}{e0:Value}{a0:A}{pv u:Value}
theorem JR{cl:Call}{ts:Array TypeId}(hg:o.guard=none)(hd:o.dst=none)(ho:o.op= .defer cl)(hcl:cl={ callee:=.value (.tmp s),args:= #[],argTypes:=ts })(hl:lk Γ s=some (.eq (.func (.func g) #[] #[.pointer (some ⟨b,0,none⟩)])))
 (h:JO ⟨P,N,S,w0,X,none,[MI g b],M⟩ ops l Q Γ Δ):JO ⟨P,N,S,w0,X,none,[],M⟩ ops (o::l) Q Γ Δ:=by
 intro a w hst
 have hw:Region.wanted o (yielded ops a.tmps)=true:=ag hg _
 refine kX λK hK=>?_
 rw [if_pos hw]
 refine O7 λv1 hr=>?_
 obtain⟨h1,h2,S',h3,h4,h5,h6⟩:=hst.rely hr
 have e1:a.eval (.tmp s)= .func (.func g) #[] #[.pointer (some ⟨b,0,none⟩)]:=h6 s _ hl
 have hex:(o.semAt none a.eval)=pure (.defer (MI g b)):=by
  rw [Oper.semAt_none];simp [execOp,ho,hcl,resolve,Deferred.ofValue,e1,MI]
 show Sg P v1 (o.semAt none a.eval)/\GE M v1 o a K Q ((o.semAt none a.eval).run P v1)
 rw [hex]
 refine⟨eP.refl v1,hK _ _ (h _ _ ⟨?_,by rw [hd];simpa [Act.put] using h2,S',h3,h4,h5,λs r hl=>by rw [hd];simpa [Act.put] using h6 s r hl⟩)⟩
 have h1:a.defers=[]:=h1
 rw [hd]
 simp [Act.put,h1]
theorem Gw{c:Cx}(hrd:c.rd=none)(hg:o.guard=none)(ho:o.op= .panic (.tmp s))(hl:lk Γ s=some (.eq (.iface T u)))(h:JN c (Q (.panic (ik (.iface T u) false))) Γ Δ):JO c ops (o::l) Q Γ Δ:=by
 intro a w hst;have hw:Region.wanted o (yielded ops a.tmps)=true:=ag hg _;refine kX λK hK=>?_;rw [if_pos hw,hrd];refine O7 λv1 hr=>?_;have hst':=hst.rely hr;obtain⟨h1,h2,S',h3,h4,h5,h6⟩:=hst';have e1:a.eval (.tmp s)= .iface T u:=h6 s _ hl
 have hex:(o.semAt none a.eval)= .halt (.panic (.iface T u)):=by
  rw [Oper.semAt_none];unfold execOp;rw [ho];show((Instr.panic (a.eval (.tmp s))).bind _)=_;rw [e1];rfl
 rw [hex];exact⟨eP.refl v1,h a _ (hst.rely hr)⟩
theorem tI{c:Cx}{M1:Act->VW->Prop}{ch:List PanicEntry}(h:JN c (Q (.panic ch)) Γ Δ):JN c (bQ M1 Q (.panic ch)) Γ Δ:=h
theorem Ba{c:Cx}{id:Nat}{ch:List PanicEntry}(h:JN c (Q (.panic ch)) Γ Δ):JN c (Ex.blk id Q (.panic ch)) Γ Δ:=h
theorem Va{m:FrameMode}{e1:Value}(hE:ai P g)(hc:lM M g m Tc e0 e1)(hm:m≠.run)(h:JN ⟨P,N,S,w0,X,none,[],M⟩ (cg P fn R .ret) Γ (.obj b Tc (.eq e1)::F)):
 JN ⟨P,N,S,w0,X,none,[MI g b],M⟩ (S5 M fn R m) Γ (.obj b Tc (.eq e0)::F):=by
 intro a w st T hT fr cs hfn hmo hdf htm hk
 have bc:=M.bc T hT
 have h1:a.defers=[MI g b]:=st.1
 refine bc.step _ _ _ λv1 hr=>?_
 obtain⟨es,q1,q2⟩:=As (P:=P) (cs:=cs) (w:=v1.toWorld) m hE hmo hm (hdf.trans h1)
 refine⟨_,_,v1.toWorld,es,q2,(eP.refl v1).sub q1,?_⟩
 obtain⟨_,h2,S1,h3,h4,h5,h6⟩:=st.rely hr
 have hO1:aS [.obj b Tc (.eq e0)] S1 v1:=aS.part (F:=F) h5
 refine hc T hT b S1 v1 { fr with defers:=[] } cs h3.dom hO1 hmo λS' w' g1 g2=>?_
 refine hk w' (h _ _ ⟨rfl,h2,S',h3.trans g1 (λx hx=>h4 x (by obtain⟨d,hd,e⟩:=hx;rw [List.mem_singleton.1 hd] at e;exact⟨_,mem_cons_self ..,e⟩)),?_,?_,λs r hl=>?_⟩)
 .
  rintro x ⟨d,hd,e⟩;rcases mem_cons.1 hd with rfl |hd
  .exact h4 x ⟨_,mem_cons_self ..,e⟩
  .exact h4 x ⟨d,mem_cons_of_mem _ hd,e⟩
 .
  refine aS.frame (Δ:=[.obj b Tc (.eq e0)]) (Δ':=[.obj b Tc (.eq e1)]) (F:=F) h3.dom h5 g1 g2 λx hx=>.inl ?_;obtain⟨d,hd,e⟩:=hx;rw [List.mem_singleton.1 hd] at e;exact⟨_,List.mem_singleton.2 rfl,e⟩
 .
  have hK:gr S1 v1 w':=λx hx=>g1.keep x (h3.dom x hx) (h5.sees x hx) λhf=>(hO1.own x hf).1 hx;exact A.mono g1.sub hK r (h6 s r hl)
theorem Ny{e1:Value}(hc:yY P g pv Tc e1)(h:JN ⟨P,N,S,w0,X,none,[],M⟩ (cg P fn R .ret) Γ (.obj b Tc (.eq e0)::F)):
 JN ⟨P,N,S,w0,X,none,[MI g b],M⟩ (pD M fn R .ret) Γ (.obj b Tc (.eq e0)::F):=Va hc.enter (hc.calm M e0) (by simp) h
theorem Gx{e1:Value}(hc:yY P g pv Tc e1)(h:JN ⟨P,N,S,w0,X,none,[],M⟩ (cg P fn R .ret) Γ (.obj b Tc (.eq e1)::F)):
 JN ⟨P,N,S,w0,X,none,[MI g b],M⟩ (pD M fn R (.panic (ik pv false))) Γ (.obj b Tc (.eq e0)::F):=Va hc.enter (hc.caught M e0) (by simp) h
theorem Bf{f:Nat}{C:Code}{as:List A}{Y:Type}{R:Y->A×List D}(N:Nat)(hf:P.funcs[f]? =some fn)(hb:fn.body=some C)(hN:fn.ntmps=N)(hn:ble as.length N=true)
 (h:∀S w0,JC ⟨P,N,S,w0,av Δ,none,[],M⟩ C (pD M fn (dK S w0 Δ R)) (entry 0 as) Δ):cz M f as Δ R:=by
 subst hN
 intro kind hkind S w vs hd hall hO T hT cs hc
 have bc:=M.bc T hT
 rw [enter_at hf hb]
 refine h S w _ _ (St.entry hn hd hall hO) T hT _ [] cs rfl λe a' v' q=>?_
 have fin:∀(m:FrameMode) (todo:List Item),S5 M fn (dK S w Δ R) m a' v'->T v' { Frame.atR { (default:Frame) with fn:=f,kind:=kind } a' todo with mode:=m } cs:=λm todo q=>
  q T hT { Frame.atR { (default:Frame) with fn:=f,kind:=kind } a' todo with mode:=m } cs hf rfl rfl rfl λv'' ⟨p1,x,p2,p3⟩=>hc _ _ _ p3 rfl rfl ⟨rfl,rfl,fn,hf,p2⟩
 cases e with
 |normal=>exact bc.move (λ_ _=>xf rfl) (fin .returning [] q)
 |ret=>exact⟨λ_ todo=>fin .returning todo q,λh=>by cases h⟩
 |panic chain=>exact λtodo=>fin (.panicking chain) todo q
 |exit id=>exact q.elim
 |goto l=>exact q.elim
 |outgrown=>exact q.elim
theorem TJ{f:Nat}{C:Code}{as:List A}{Y:Type}{R:Y->A×List D}(N:Nat)(hf:P.funcs[f]? =some fn)(hb:fn.body=some C)(hN:fn.ntmps=N)(hn:ble as.length N=true)
 (h:∀{M:Md P} (S:FS) (w0:VW),JC ⟨P,N,S,w0,av Δ,none,[],M⟩ C (pD M fn (dK S w0 Δ R)) (entry 0 as) Δ):dG P f as Δ R:=λ_=>Bf N hf hb hN hn h
end
section
variable {P:Program}{M:Md P}{o:Oper}{x:Operand}{T T':TypeId}{n:Int}
structure Qm(P:Program)(T:TypeId)(z:Value):Prop where
 und:∃fs,P.underlying T=some (.struct fs)
 zero:∀w,(zeroValue T).run P w= .ok z w
theorem HI{fr b:Frame}{cs:List Frame}{m:FrameMode}(hb:b.kind= .deferred)(hm:fr.mode= .returning)(he:m= .returning):
 (match tryRecover b (fr::cs) with |some (x,cs')=>x= .nilIface/\cs'={ fr with mode:=m }::cs |none=>Value.nilIface= .nilIface/\m= .returning):=by
 simp_all [tryRecover]
theorem HH{fr b:Frame}{cs:List Frame}(hb:b.kind= .deferred){v:Value}(hm:fr.mode= .panicking (ik v false)):
 (match tryRecover b (fr::cs) with |some (x,cs')=>x=v/\cs'={ fr with mode:=.panicking (ik v true) }::cs |none=>v= .nilIface/\FrameMode.panicking (ik v true)= .panicking (ik v false)):=by
 grind [tryRecover,ik]
end
theorem Lj{P:Program}{M:Md P}{o:Oper}{x:Operand}{T:TypeId}{f n:Nat}{g:Bool}{fs:Array Field}{fd:Field}{a1 r:A}(ho:o.op= .field T x f)(hu:P.underlying T=some (.struct fs))(hf:fs[f]? =some fd)(hz:eu P fd.type n g)(hg:g=false->n=1)
 (hget:a1.get fd.offset n g=some r) (hag:a1.isAgg=true) (hs:a1.stor):bB M o [(x,a1)] [] (λ_:Unit=>(r,[])):=
 .val0 λS w a hN=>by
  obtain⟨h1,h2,h3⟩:=eF hN.1 hs
  obtain⟨g1,g2⟩:=iK a1 h1 hget
  generalize hcs:(a.eval x).cells.toList=cs at h1 h2 h3 g1
  have e1:a.eval x= .agg cs.toArray:=by rw [h3,hag];rfl
  refine⟨_,?_,g1⟩
  have hp:(part fd.type cs.toArray fd.offset).run P w= .ok (mk g ((cs.drop fd.offset).take n)) w:=by
   unfold part;cases g with
   |true=>
    simp only [Sem.run_bind,hz.agg,Result.andThen_ok,if_true,hz.size,Sem.run_pure];simp only [mk,if_true,Result.ok.injEq,and_true,Value.agg.injEq];simp_all
   |false=>
    obtain rfl:=hg rfl;have hlt:fd.offset < cs.length:=by omega
    have e9:(cs.drop fd.offset).take 1=[cs[fd.offset]]:=by grind [drop_eq_getElem_cons]
    have e8:cs.toArray[fd.offset]? =some cs[fd.offset]:=by simp [hlt]
    rw [e9];simp only [Sem.run_bind,hz.agg,Result.andThen_ok,e8];rfl
  simp [execOp,ho,e1,Instr.field,Sem.run_bind,run_underlying hu,hf,asAgg,hp]
end K
end Go.Proofs.YtflilincnacbpaaGreat
namespace Go.Proofs.YtflilincnacbpaaGreat
namespace K
open Go Go.ChangeShapes Go.WideShapes Go.ChangeAt Go.RowKit
@[reducible] def vw(W:World):VW:=⟨W,λ_=>False,λ_=>False⟩
theorem HT{S:FS}{W:World}:aS [] S (vw W):=⟨λ_ h=>by simp at h,λ_ hb=>(cx hb).elim,Pairwise.nil,λ_ hb=>(cx hb).elim,λ_ _ h=>h,λ_ h=>h.elim,λ_ h=>h.elim⟩
section
variable {H:Type}{enc:TypeId×Value->H}{P:Program}{M:Md P}
theorem HO{f:Func}{s:ChangeSpec}{apart fresh handsOn again:Bool}{W W':World}{args:Array Value}{v:Value}{ds gs:List (DataW H)}{before pa pv:List MemPlace}
 (hW:DataW.Whole enc P f.params.toList s.vars apart W args.toList ds gs before)
 (hres:∀(b:Nat) (sp:Nat->Bool) (hd:Bool),DataW.TrodAll enc P W' b sp hd f.resultTypes.toList (v.resultList f.resultTypes.size) (s.fn H (ds++gs)).results [])
 (hargs:∀sp:Nat->Bool,(∀p∈before,sp p.block=true)->DataW.TrodAll enc P W' 0 sp true f.params.toList args.toList (s.fn H (ds++gs)).args pa)
 (hvars:∀sp:Nat->Bool,(∀p∈before,sp p.block=true)->DataW.TrodVars enc P W' sp s.vars (s.fn H (ds++gs)).vars pv)
 (hps:before=pa++pv) (hk:W.keptBut W' (· ∈before)) (hfz:∀a:Addr,a.block < W.heap.size->W'.frozen? a=W.frozen? a)
 (hok:∀(j:Nat) (t:TypeId) (r:Value),f.resultTypes[j]? =some t->(v.resultList f.resultTypes.size)[j]? =some r->Value.okWide P W' .any 0 t r):
 s.post enc P f apart fresh handsOn again W args v W':=by
 have hlt:∀p∈before,p.block < W.heap.size:=λp hp=>hW.lt p hp
 have hold:∀p∈before,(λb=>decide (b < W.heap.size)) p.block=true:=λp hp=>by simp_all
 refine⟨ds,gs,before,[],pa,pv,hW,hres _ _ _,hargs _ hold,hvars _ hold,World.keptBut_mono (λp hp=>⟨hp,?_⟩) hk,λ_=>?_⟩
 .
  simp_all
 .
  obtain⟨_,_,_,_,_,hz,hn⟩:=hW;refine⟨hok,_,_,([]++pa)++pv,⟨[]++pa,pv,trodAll_append (hargs _ (λ_ _=>rfl)) (hres _ _ _),hvars _ (λ_ _=>rfl),rfl,?_,?_⟩,?_⟩
  .intro b off hp;have hp':MemPlace.cell b off∈before:=by simp_all
   rw [hfz _ (hlt _ hp')];exact hz b off hp'
  .simp_all
  simp_all
theorem E7{S S':FS}{W:World}{W':VW}{may:MemPlace->Prop}(h:bD (av []) S (vw W) S' W'):W.keptBut { W'.toWorld with os:=W.os } may/\∀a:Addr,a.block < W.heap.size->World.frozen? { W'.toWorld with os:=W.os } a=W.frozen? a:=by
 have hk:∀b,b < W.heap.size->W'.heap[b]? =W.heap[b]? :=λb hb=>h.keep b hb (λhx=>hx) (λhx=>cx hx);refine⟨⟨rfl,h.output,λi hi=>by grind⟩,λa ha=>?_⟩;simp_all [World.frozen?]
end
def MT(P:Program):Ty->TypeId ⊕ (List Field×Nat)->Prop
 | .int k,.inl T=>P.underlying T=some (.int k)
 | .bool,.inl T=>P.underlying T=some .bool
 | .str,.inl T=>P.underlying T=some .string
 | .slice t,.inl T=>∃e,P.underlying T=some (.slice e)/\P.cellsOf e=t.cells/\MT P t (.inl e)
 | .agg t,.inl T=>∃fs:Array Field,P.underlying T=some (.struct fs)/\P.cellsOf T=t.cells/\MT P t (.inr (fs.toList,0))
 | .pair t u,.inr (f::fs,off)=>f.offset=off/\P.cellsOf f.type=t.cells/\MT P t (.inl f.type)/\
  ((∃g,fs=[g]/\g.offset=off+t.cells/\P.cellsOf g.type=u.cells/\MT P u (.inl g.type))\/MT P u (.inr (fs,off+t.cells)))
 |_,_=>False
theorem MT.pos{P:Program}:∀(t:Ty) {s:TypeId ⊕ (List Field×Nat)},MT P t s->0 < t.cells
 | .int _,_,_=>by simp [Ty.cells]
 | .bool,_,_=>by simp [Ty.cells]
 | .slice _,_,_=>by simp [Ty.cells]
 | .agg t,.inl T,⟨_,_,_,h⟩=>MT.pos t h
 | .pair t u,.inr (f::fs,off),⟨_,_,h,_⟩=>by have:=MT.pos t h;simp only [Ty.cells];omega
 | .agg _,.inr _,h=>h.elim
 | .pair _ _,.inl _,h=>h.elim
 | .pair _ _,.inr ([],_),h=>h.elim
 | .val,.inl _,h=>h.elim
 | .val,.inr _,h=>h.elim
 | .arr _ _,.inl _,h=>h.elim
 | .arr _ _,.inr _,h=>h.elim
 | .ptr _,.inl _,h=>h.elim
 | .ptr _,.inr _,h=>h.elim
 | .tag _ _,.inl _,h=>h.elim
 | .tag _ _,.inr _,h=>h.elim
 | .ign,.inl _,h=>h.elim
 | .ign,.inr _,h=>h.elim
 | .alt _,.inl _,h=>h.elim
 | .alt _,.inr _,h=>h.elim
 | .lst _,.inl _,h=>h.elim
 | .lst _,.inr _,h=>h.elim
 | .mo _ _ _,.inl _,h=>h.elim
 | .mo _ _ _,.inr _,h=>h.elim
 | .pl _ _ _,.inl _,h=>h.elim
 | .pl _ _ _,.inr _,h=>h.elim
 | .str,_,_=>by simp [Ty.cells]
theorem add_mk{b off i:Nat}:Addr.add ⟨b,off,none⟩ i=⟨b,off+i,none⟩:=by
 unfold Addr.add;by_cases h:i=0
 .subst h;simp
 .simp [h]
theorem Nh{a:Addr}{b off i:Nat}(h:a.add (0 * i)=⟨b,off,none⟩):a=⟨b,off,none⟩:=by
 unfold Addr.add at h;rwa [if_pos (Nat.zero_mul i)] at h
theorem xo{W:World}{base n:Nat}{a:Addr}{kH:List Value}(hn:0 < n)(h:W.cells? base a n=some kH):
 ∃b off c T fz,a=⟨b,off,none⟩/\W.heap[b]? =some (.cells c T fz)/\kH=(c.toList.drop off).take n:=by
 unfold World.cells? at h
 split at h
 .
  have hl:=mapM_some_length h;have hg:=mapM_some_get h;rw [length_range] at hl;have h0:=hg 0 0 (by simp [hn]);obtain⟨b,off,sp⟩:=a;rw [List.getElem?_eq_getElem (by omega)] at h0;unfold World.cell? at h0;split at h0
  .rename_i c T fz hb;split at h0
   .cases h0
   rename_i hsp
   have hsp':sp=none:=by cases sp with
    |none=>rfl
    |some x=>simp [Addr.add] at hsp
   subst hsp';have hb':W.heap[b]? =some (.cells c T fz):=hb;refine⟨b,off,c,T,fz,rfl,hb',?_⟩;apply List.ext_getElem?;intro i;by_cases hi:i < n
   .have:=hg i i (by simp [hi]);rw [<-this,getElem?_take,if_pos hi,getElem?_drop,getElem?_toList];rw [add_mk];simp [World.cell?,hb']
   .rw [getElem?_take,if_neg hi,List.getElem?_eq_none (by omega)]
  .cases h0
 .
  cases h
theorem DG{α:Type}{R:α->List Value->Prop}{m:Nat}{cl:List Value}:∀{len off:Nat},(∀i,i < len->∃d,R d ((cl.drop (off+i * m)).take m))->∃l:List α,l.length=len/\dA R l ((cl.drop off).take (len * m))
 |0,_,_=>⟨[],rfl,by simp [dA]⟩
 |len+1,off,h=>by
  obtain⟨d,hd⟩:=h 0 (by omega)
  obtain⟨l,hl,hr⟩:=DG (R:=R) (m:=m) (cl:=cl) (len:=len) (off:=off+m) (λi hi=>by
   have:=h (i+1) (by omega)
   rwa [succ_mul,show off+(i * m+m)=off+m+i * m from by omega] at this)
  refine⟨d::l,by simp [hl],_,_,?_,hd,hr⟩
  rw [succ_mul,Nat.add_comm (len * m) m,take_add,drop_drop]
  simp
section
variable {H:Type}{enc:TypeId×Value->H}{P:Program}{M:Md P}
theorem BO{W:World}{S:FS}:∀(t:Ty),
 (∀T aL cs (x:DataW H×List MemPlace),MT P t (.inl T)->DataW.trod enc P W 0 (λ_=>true) true aL T cs=some x->(∀p∈x.2,S p.block)->∃d:t.den,rd S W t d cs)/\
 (∀(fs:List Field) (off n:Nat) (cs:List Value) (xs:List (DataW H×List MemPlace)),MT P t (.inr (fs,off))->cs.length=off+t.cells->xs.length=fs.length->
  (∀(i:Nat) f,fs[i]? =some f->DataW.trod enc P W 0 (λ_=>true) true n f.type ((cs.drop f.offset).take (P.cellsOf f.type))=xs[i]?)->(∀y∈xs,∀p∈y.2,S p.block)->∃d:t.den,rd S W t d (cs.drop off)):=by
 intro t
 induction t with
 |int k=>
  refine⟨λT aL cs x hm h _=>?_,λfs off n cs xs hm=>by cases fs <;> exact hm.elim⟩;obtain⟨n,rfl,_,_⟩:=DataW.trod_int hm h;exact⟨n,rfl⟩
 |bool=>
  refine⟨λT aL cs x hm h _=>?_,λfs off n cs xs hm=>by cases fs <;> exact hm.elim⟩;obtain⟨n,rfl,_⟩:=DataW.trod_bool hm h;exact⟨n,rfl⟩
 |slice t ih=>
  refine⟨λT aL cs x hm h hS=>?_,λfs off n cs xs hm=>by cases fs <;> exact hm.elim⟩;obtain⟨e,he,hce,hme⟩:=hm;have hpos:=MT.pos t hme;rcases DataW.trod_slice he h with⟨rfl,_⟩ |⟨a,len,cap,elems,rest,n,_,rfl,rfl,_,hl,_,hlen,hel,_,_⟩
  .exact⟨[],.inl ⟨none,0,rfl,rfl⟩⟩
  .cases len with
   |zero=>exact⟨[],.inl ⟨some a,cap,rfl,rfl⟩⟩
   |succ len=>
    rw [hce] at hel
    have kH:∀i,i < len+1->∃r y,W.cells? 0 (a.add (i * t.cells)) t.cells=some r/\DataW.trod enc P W 0 (λ_=>true) true n e r=some y/\y∈elems:=λi hi=>by
     have:=hel i hi;rw [List.getElem?_eq_getElem (by omega)] at this;obtain⟨r,e1,e2⟩:=Option.bind_eq_some_iff.1 this;exact⟨r,_,e1,e2,List.getElem_mem _⟩
    obtain⟨r0,y0,e0,_,_⟩:=kH 0 (by omega);obtain⟨b,off,c,T',fz,ha,hb,_⟩:=xo hpos e0;have ha':=Nh ha;subst ha'
    obtain⟨l,hl1,hl2⟩:=DG (R:=rd S W t) (m:=t.cells) (cl:=c.toList) (len:=len+1) (off:=off) (λi hi=>by
     obtain⟨r,y,e1,e2,hy⟩:=kH i hi;obtain⟨b',off',c',T2,fz',ha2,hb2,hr⟩:=xo hpos e1;rw [add_mk,Addr.mk.injEq] at ha2;obtain⟨rfl,rfl,_⟩:=ha2;rw [hb] at hb2;cases hb2;subst hr;exact ih.1 e n _ y hme e2 (λp hp=>hS p (List.mem_append.2 (.inr (List.mem_flatMap.2 ⟨y,List.mem_append.2 (.inl hy),hp⟩)))))
    refine⟨l,.inr ⟨b,off,cap,c,T',fz,by rw [hl1],by rw [hl1];exact hl,?_,hb,by rw [hl1];exact hl2⟩⟩;have:=hS (.cell b (off+0)) (List.mem_append.2 (.inl (MemPlace.mem_row.2 ⟨0,Nat.mul_pos (by omega) (by omega),rfl⟩)));exact this
 |agg t ih=>
  refine⟨λT aL cs x hm h hS=>?_,λfs off n cs xs hm=>by cases fs <;> exact hm.elim⟩;obtain⟨fs,hf,hc,hmf⟩:=hm;obtain⟨xs,n,_,rfl,hl,hxl,hx⟩:=DataW.trod_struct hf h;obtain⟨d,hd⟩:=ih.2 fs.toList 0 n cs xs hmf (by omega) (by simpa using hxl) (λi f hi=>hx i f (by simpa using hi)) (λy hy p hp=>hS p (List.mem_flatMap.2 ⟨y,hy,hp⟩));exact⟨d,by simpa [rd] using hd⟩
 |pair t u iht ihu=>
  refine⟨λT aL cs x hm=>hm.elim,λfs off n cs xs hm hl hxl hx hS=>?_⟩;cases fs with
  |nil=>exact hm.elim
  |cons f fs=>
   obtain⟨h1,h2,h3,h4⟩:=hm;simp only [Ty.cells] at hl;cases xs with
   |nil=>simp at hxl
   |cons y ys=>
    have e0:=hx 0 f rfl;rw [h1,h2] at e0;obtain⟨d1,hd1⟩:=iht.1 f.type n _ y h3 e0 (hS y (by simp))
    have hrest:∃d:u.den,rd S W u d (cs.drop (off+t.cells)):=by
     rcases h4 with⟨g,rfl,g1,g2,g3⟩ |h4
     .cases ys with
      |nil=>simp at hxl
      |cons z zs=>
       have e1:=hx 1 g rfl;rw [g1,g2] at e1;obtain⟨d2,hd2⟩:=ihu.1 g.type n _ z g3 e1 (hS z (by simp));rw [take_of_length_le (by rw [length_drop];omega)] at hd2;exact⟨d2,hd2⟩
     .exact ihu.2 fs (off+t.cells) n cs ys h4 (by omega) (by simpa using hxl) (λi g hi=>hx (i+1) g hi) (λz hz=>hS z (by simp [hz]))
    obtain⟨d2,hd2⟩:=hrest;refine⟨(d1,d2),_,_,?_,hd1,hd2⟩;rw [<-drop_drop,take_append_drop]
 |val=>exact⟨λT aL cs x hm=>hm.elim,λfs off n cs xs hm=>by cases fs <;> exact hm.elim⟩
 |arr _ _ _=>exact⟨λT aL cs x hm=>hm.elim,λfs off n cs xs hm=>by cases fs <;> exact hm.elim⟩
 |ptr _ _=>exact⟨λT aL cs x hm=>hm.elim,λfs off n cs xs hm=>by cases fs <;> exact hm.elim⟩
 |tag _ _=>exact⟨λT aL cs x hm=>hm.elim,λfs off n cs xs hm=>by cases fs <;> exact hm.elim⟩
 |ign=>exact⟨λT aL cs x hm=>hm.elim,λfs off n cs xs hm=>by cases fs <;> exact hm.elim⟩
 |alt _ _=>exact⟨λT aL cs x hm=>hm.elim,λfs off n cs xs hm=>by cases fs <;> exact hm.elim⟩
 |lst _ _=>exact⟨λT aL cs x hm=>hm.elim,λfs off n cs xs hm=>by cases fs <;> exact hm.elim⟩
 |mo _ _ _ _=>exact⟨λT aL cs x hm=>hm.elim,λfs off n cs xs hm=>by cases fs <;> exact hm.elim⟩
 |pl _ _ _ _=>exact⟨λT aL cs x hm=>hm.elim,λfs off n cs xs hm=>by cases fs <;> exact hm.elim⟩
 |str=>
  refine⟨λT aL cs x hm h _=>?_,λfs off n cs xs hm=>by cases fs <;> exact hm.elim⟩;obtain⟨s,rfl,_,_⟩:=DataW.trod_string hm h;exact⟨s,rfl⟩
theorem IV{W:World}{S:FS}{base:Nat}{t:Ty}{T:TypeId}{v:Value}{d:t.den}(hm:MT P t (.inl T))(hv:Value.okWide P W .any base T v)(h:rd S W t d v.cells.toList):(A.rep t d).holds S W v:=by
 refine⟨_,h,?_⟩;cases t with
 |int k=>obtain⟨n,rfl⟩:=okWide_int hm hv;rfl
 |bool=>obtain⟨n,rfl⟩:=okWide_bool hm hv;rfl
 |slice t=>obtain⟨e,he,_⟩:=hm;obtain⟨a,l,c,rfl⟩:=okWide_slice he hv;rfl
 |agg t=>obtain⟨fs,hf,_⟩:=hm;obtain⟨cs,rfl,_⟩:=okWide_struct hf hv;simp [mk,Ty.isAgg,Value.cells]
 |val=>exact hm.elim
 |pair _ _=>exact hm.elim
 |arr _ _=>exact hm.elim
 |ptr _=>exact hm.elim
 |tag _ _=>exact hm.elim
 |ign=>exact hm.elim
 |alt _=>exact hm.elim
 |lst _=>exact hm.elim
 |mo _ _ _=>exact hm.elim
 |pl _ _ _=>exact hm.elim
 |str=>obtain⟨s,rfl⟩:=okWide_string hm hv;rfl
theorem zw{W:World}{sp:Nat->Bool}:∀{ts:List TypeId} {vs:List Value} {ds:List (DataW H)} {ps:List MemPlace},DataW.TrodAll enc P W 0 sp true ts vs ds ps->ds.length=ts.length
 |[],[],[],_,_=>rfl
 |_::_,_::_,_::_,_,h=>by
  obtain⟨q,r,h1,h2,_⟩:=h
  simp [zw h2]
 |[],_::_,_,_,h=>h.elim
 |[],[],_::_,_,h=>h.elim
 |_::_,[],_,_,h=>h.elim
 |_::_,_::_,[],_,h=>h.elim
def Lk:List (TypeId×Ty)->List A->Prop
 |[],as=>as=[]
 |p::l,as=>∃d as',as= .rep p.2 d::as'/\Lk l as'
theorem ED{W:World}{S:FS}{base:Nat}:∀{ts:List (TypeId×Ty)} {vs:List Value} {ds:List (DataW H)} {ps:List MemPlace},(∀p∈ts,MT P p.2 (.inl p.1))->(∀(j:Nat) t v,(ts.map (·.1))[j]? =some t->vs[j]? =some v->Value.okWide P W .any base t v)->
 DataW.TrodAll enc P W 0 (λ_=>true) true (ts.map (·.1)) vs ds ps->(∀p∈ps,S p.block)->∃as,Lk ts as/\fM S W as vs
 |[],[],[],_,_,_,_,_=>⟨[],rfl,rfl⟩
 |p::ts,v::vs,d::ds,ps,hm,hv,h,hS=>by
  obtain⟨q,r,⟨aL,h1⟩,h2,rfl⟩:=h
  obtain⟨a,ha⟩:=(BO p.2).1 p.1 aL _ _ (hm p (by simp)) h1 (λx hx=>hS x (List.mem_append.2 (.inl hx)))
  obtain⟨as,hl,h3⟩:=ED (ts:=ts) (λx hx=>hm x (by simp [hx])) (λj t w h h'=>hv (j+1) t w h h') h2 (λx hx=>hS x (List.mem_append.2 (.inr hx)))
  exact⟨.rep p.2 a::as,⟨a,as,rfl,hl⟩,v,vs,rfl,IV (hm p (by simp)) (hv 0 _ _ rfl rfl) ha,h3⟩
 |[],_::_,_,_,_,_,h,_=>h.elim
 |[],[],_::_,_,_,_,h,_=>h.elim
 |_::_,[],_,_,_,_,h,_=>h.elim
 |_::_,_::_,[],_,_,_,h,_=>h.elim
theorem AY(FB:laidOutB P=true){W W':World}{sp:Nat->Bool}(hk:∀b,b < W.heap.size->W'.heap[b]? =W.heap[b]?):∀{ts:List TypeId} {vs:List Value} {ds:List (DataW H)} {ps:List MemPlace},(∀T∈ts,P.readableRec T=true/\T < P.types.size)->
 DataW.TrodAll enc P W 0 (λ_=>true) true ts vs ds ps->(∀p∈ps,p.block < W.heap.size/\sp p.block=true)->DataW.TrodAll enc P W' 0 sp true ts vs ds ps
 |[],[],[],_,_,h,_=>h
 |T::ts,v::vs,d::ds,ps,hT,h,hp=>by
  obtain⟨q,r,h1,h2,rfl⟩:=h
  obtain⟨t1,t2⟩:=hT T (by simp)
  refine⟨q,r,WideElems.Trod_stays FB t1 t2 h1 (λp hq=>?_) (λp hq=>(hp p (List.mem_append.2 (.inl hq))).2),AY FB hk (λx hx=>hT x (by simp [hx])) h2 (λp hq=>hp p (List.mem_append.2 (.inr hq))),rfl⟩
  have hb:=hk _ (hp p (List.mem_append.2 (.inl hq))).1
  cases p with
  |cell b off=>have hb:W'.heap[b]? =W.heap[b]? :=hb;simp only [World.sameAt,World.cell?,hb]
  |map b=>exact hb
 |[],_::_,_,_,_,h,_=>h.elim
 |[],[],_::_,_,_,h,_=>h.elim
 |_::_,[],_,_,_,h,_=>h.elim
 |_::_,_::_,[],_,_,h,_=>h.elim
theorem F3{M:Md P}{f:Nat}{fn:Func}{B:TypeId}{s:ChangeSpec}(ts:List (TypeId×Ty))(hp:fn.params.toList=ts.map (·.1))(hr:fn.resultTypes= #[B])(hB:P.underlying B=some .bool)
 (hm:∀p∈ts,MT P p.2 (.inl p.1)) (FB:laidOutB P=true) (hT:∀T∈ts.map (·.1),P.readableRec T=true/\T < P.types.size)
 (hs:∀ds:List (DataW H),ds.length=ts.length->s.fn H ds={ results:=[.lit (.bool true)],args:=ds }) (hv:s.vars=[])
 (law:∀as,Lk ts as->cz M f as [] (λ_:Unit=>(bO [.eq (.bool true)],[])))
 (W:World) (base:Nat) (args:Array Value) (ds gs:List (DataW H)) (before:List MemPlace)
 (hval:∀(j:Nat) t v,fn.params[j]? =some t->args[j]? =some v->Value.okWide P W .any base t v)
 (hW:DataW.Whole enc P fn.params.toList s.vars false W args.toList ds gs before):
 jC M .normal f args (vw W) λe W'=>∃v,e= .returned v/\∀v1,bu W' v1->s.post enc P fn false true false false W args v { v1.toWorld with os:=W.os }/\j7 v1.os W.os:=by
 have hW':=hW
 obtain⟨p,q,hA,hV,rfl,_,_⟩:=hW
 rw [hv] at hV
 obtain⟨rfl,rfl⟩:=trodVars_none hV
 have hlt:∀x∈p,x.block < W.heap.size:=hA.lt
 have hlen:=zw hA
 rw [hp,length_map] at hlen
 rw [hp] at hA
 obtain⟨as,hL,h2⟩:=ED (S:=λb=>b < W.heap.size) (base:=base) hm (λj t v h1 h2=>hval j t v (by rw [<-hp] at h1;simpa using h1) (by simpa using h2)) hA hlt
 have:=law as hL .normal (λe=>nomatch e) (λb=>b < W.heap.size) (vw W) args.toList (λ_ h=>h) h2 HT
 rw [toArray_toList] at this
 refine this.mono ?_
 rintro e' W' ⟨_,S',v,rfl,h1,h2,_,_⟩
 obtain rfl:v= .bool true:=h2
 refine⟨_,rfl,λv1 hrel=>?_⟩
 replace h1:=h1.trans (bD.rely (X:=av []) h1.dom hrel) λb hb=>.inl hb
 obtain⟨k1,k2⟩:=E7 (may:=(· ∈p++[])) h1
 have hk:∀b,b < W.heap.size->({ v1.toWorld with os:=W.os }:World).heap[b]? =W.heap[b]? :=λb hb=>h1.keep b hb (λhx=>hx) (λhx=>cx hx)
 refine⟨?_,h1.os⟩
 refine HO (pa:=p) (pv:=[]) hW' (λ_ _ _=>?_) (λsp hsp=>?_) (λ_ _=>?_) rfl k1 k2 (ok_one hr rfl (okWide_bool_mk hB _))
 .
  rw [hr,append_nil,hs ds hlen];exact trodAll_mk1 (shut_bool hB _)
 .
  rw [hp,append_nil,hs ds hlen];exact AY FB hk hT hA (λx hx=>⟨hlt x hx,hsp x (by simpa using hx)⟩)
 .
  rw [hv,append_nil,hs ds hlen];rfl
end
end K
end Go.Proofs.YtflilincnacbpaaGreat
namespace Go.Proofs.YtflilincnacbpaaGreat
namespace K
open Go
section
variable {c:Cx}{ops:Array Oper}{l:List Oper}{Q:Exit->Act->VW->Prop}{Γ:Ga}{Δ:List D}{r:A}{d s j:Nat}{C':Code}{o oj:Oper}{b g:Bool}{x y z:Operand}
theorem nt(h:JC c C' Q Γ Δ):JO c ops [] (bQ (C'.wk c.M c.rd Q) Q) Γ Δ:=aD (ao h)
theorem sr{id:Nat}{l:List Oper}(h:JO c l.toArray l (bQ (C'.wk c.M c.rd Q) Q) Γ Δ):JC c (.seq (.region id l.toArray false) C') Q Γ Δ:=am (ab h)
theorem sk(h:JC c C' Q Γ Δ):JC c .skip (bQ (C'.wk c.M c.rd Q) Q) Γ Δ:=bj (ao h)
theorem tn(h:JC c C' Q Γ Δ):JN c (bQ (C'.wk c.M c.rd Q) Q .normal) Γ Δ:=ao h
theorem fr(k:Nat){e:D}(hj:JO c ops l Q Γ (e::Δ.eraseIdx k))(h:Δ[k]? =some e:=by exact rfl):JO c ops l Q Γ Δ:=dN k h hj
section
variable {C1 C2:Code}{p:Prop}[Decidable p]{α β:Type}{X Y:Option α}{K:α->Option β}{v:β}
theorem ci(h:(if p then X else Y).bind K=some v)(ht:X.bind K=some v->JC c C1 Q Γ Δ)(hf:Y.bind K=some v->JC c C2 Q Γ Δ)(hl:lk Γ s=some (.eq (.bool (decide p))):=by exact rfl):JC c (.cond (.tmp s) C1 C2) Q Γ Δ:=ie hl (λhb=>ht (fo (vI hb) h)) (λhb=>hf (di (vJ hb) h))
theorem cn(h:(if¬p then X else Y).bind K=some v)(ht:X.bind K=some v->JC c C1 Q Γ Δ)(hf:Y.bind K=some v->JC c C2 Q Γ Δ)(hl:lk Γ s=some (.eq (.bool (!decide p))):=by exact rfl):JC c (.cond (.tmp s) C1 C2) Q Γ Δ:=ie hl (λhb=>ht (fo (QD hb) h)) (λhb=>hf (di (FA hb) h))
theorem cv(h:(if b=true then X else Y).bind K=some v)(ht:X.bind K=some v->JC c C1 Q Γ Δ)(hf:Y.bind K=some v->JC c C2 Q Γ Δ)(hl:lk Γ s=some (.eq (.bool b)):=by exact rfl):JC c (.cond (.tmp s) C1 C2) Q Γ Δ:=ie hl (λhb=>ht (fo (OG hb) h)) (λhb=>hf (di (OH hb) h))
theorem cw(h:(if¬(b=true) then X else Y).bind K=some v)(ht:X.bind K=some v->JC c C1 Q Γ Δ)(hf:Y.bind K=some v->JC c C2 Q Γ Δ)(hl:lk Γ s=some (.eq (.bool (!b))):=by exact rfl):JC c (.cond (.tmp s) C1 C2) Q Γ Δ:=ie hl (λhb=>ht (fo (zR hb) h)) (λhb=>hf (di (tL hb) h))
end
theorem mq{t:Nat}{ty:TypeId}{pos:String}{af:Array Edge}(h:JO c ops l Q ((d,r)::Γ) Δ)(hdN:blt d c.N=true:=by exact rfl)(hl:lk Γ t=some r:=by exact rfl):JO c ops (⟨some d,.move (.tmp t),ty,pos,af,none⟩::l) Q Γ Δ:=dh hdN hl h
theorem aq{t:Nat}{ty:TypeId}{pos:String}{af:Array Edge}(h:JO c ops l Q ((d,r)::Γ) Δ)(hdN:blt d c.N=true:=by exact rfl)(hl:lk Γ t=some r:=by exact rfl):JO c ops (⟨some d,.assign (.tmp t),ty,pos,af,none⟩::l) Q Γ Δ:=nU hdN hl h
theorem gn(h:JO c ops l Q ((d,.eq undef)::Γ) Δ)(hg:o.guard=some (j,g):=by exact rfl)(hj:ops[j]? =some oj:=by exact rfl)(hs:oj.dst=some s:=by exact rfl)(hl:lk Γ s=some (.eq (.bool b)):=by exact rfl)(hb:(b == g)=false:=by exact rfl)(hd:o.dst=some d:=by exact rfl)(hdN:blt d c.N=true:=by exact rfl):JO c ops (o::l) Q Γ Δ:=by grind [Qs]
theorem cq{v:Value}{ty:TypeId}{pos:String}{af:Array Edge}(h:JO c ops l Q ((d,.eq v)::Γ) Δ)(hdN:blt d c.N=true:=by exact rfl):JO c ops (⟨some d,.assign (.const v),ty,pos,af,none⟩::l) Q Γ Δ:=tY hdN h
theorem pf{ty:TypeId}{pos:String}{af:Array Edge}(h:JO c ops l Q ((d,r)::Γ) Δ)(hdN:blt d c.N=true:=by exact rfl)(hh:ek Γ [(x,.eq (.bool false)),(z,r)]:=by exact⟨rfl,rfl,trivial⟩):JO c ops (⟨some d,.pick x y z,ty,pos,af,none⟩::l) Q Γ Δ:=bh hdN (H5 rfl) hh h
theorem pt{ty:TypeId}{pos:String}{af:Array Edge}(h:JO c ops l Q ((d,r)::Γ) Δ)(hdN:blt d c.N=true:=by exact rfl)(hh:ek Γ [(x,.eq (.bool true)),(y,r)]:=by exact⟨rfl,rfl,trivial⟩):JO c ops (⟨some d,.pick x y z,ty,pos,af,none⟩::l) Q Γ Δ:=bh hdN (H4 rfl) hh h
theorem gm(h:JO c ops l Q ((d,r)::Γ) Δ)(hg:o.guard=some (j,g):=by exact rfl)(hj:ops[j]? =some oj:=by exact rfl)(hs:oj.dst=some s:=by exact rfl)(hl:lk Γ s=some (.eq (.bool g)):=by exact rfl)(hd:o.dst=some d:=by exact rfl)(hdN:blt d c.N=true:=by exact rfl)(ho:o.op= .move x:=by exact rfl)(hh:ek Γ [(x,r)]:=by exact⟨rfl,trivial⟩):JO c ops (o::l) Q Γ Δ:=mI hg hj hs hl hd hdN (bL ho) hh h
theorem ja{N:List (Operand×A)}{op:Op}{ty:TypeId}{pos:String}{af:Array Edge}(ht:bB c.M ⟨some d,op,ty,pos,af,none⟩ N [] (λ_:Unit=>(r,[])))(h:JO c ops l Q ((d,r)::Γ) Δ)(hdN:blt d c.N=true:=by exact rfl)(hh:ek Γ N:=by exact⟨rfl,trivial⟩):JO c ops (⟨some d,op,ty,pos,af,none⟩::l) Q Γ Δ:=bh hdN ht hh h
theorem ka{N:List (Operand×A)}{F:List D}{e e':D}(ht:bB c.M o N [e] (λ_:Unit=>(r,[e'])))(h:JO c ops l Q ((d,r)::Γ) (e'::F))(hg:o.guard=none:=by exact rfl)(hd:o.dst=some d:=by exact rfl)(hdN:blt d c.N=true:=by exact rfl)(hh:ek Γ N:=by exact⟨rfl,trivial⟩):JO c ops (o::l) Q Γ (e::F):=by grind [fu]
theorem ga{N:List (Operand×A)}(ht:bB c.M o N [] (λ_:Unit=>(r,[])))(h:JO c ops l Q ((d,r)::Γ) Δ)(hg:o.guard=some (j,g):=by exact rfl)(hj:ops[j]? =some oj:=by exact rfl)(hs:oj.dst=some s:=by exact rfl)(hl:lk Γ s=some (.eq (.bool g)):=by exact rfl)(hd:o.dst=some d:=by exact rfl)(hdN:blt d c.N=true:=by exact rfl)(hh:ek Γ N:=by exact⟨rfl,trivial⟩):JO c ops (o::l) Q Γ Δ:=by grind [mI]
theorem jb{N:List (Operand×A)}{op:Op}{ty:TypeId}{pos:String}{af:Array Edge}(ht:bB c.M ⟨some d,op,ty,pos,af,none⟩ N [] (λ_:Unit=>(r,[])))(h:JO c ops l Q ((d,r)::Γ) Δ)(hdN:blt d c.N=true:=by exact rfl)(hh:ek Γ N:=by exact⟨rfl,rfl,trivial⟩):JO c ops (⟨some d,op,ty,pos,af,none⟩::l) Q Γ Δ:=bh hdN ht hh h
theorem kb{N:List (Operand×A)}{F:List D}{e e':D}(ht:bB c.M o N [e] (λ_:Unit=>(r,[e'])))(h:JO c ops l Q ((d,r)::Γ) (e'::F))(hg:o.guard=none:=by exact rfl)(hd:o.dst=some d:=by exact rfl)(hdN:blt d c.N=true:=by exact rfl)(hh:ek Γ N:=by exact⟨rfl,rfl,trivial⟩):JO c ops (o::l) Q Γ (e::F):=by grind [fu]
theorem gb{N:List (Operand×A)}(ht:bB c.M o N [] (λ_:Unit=>(r,[])))(h:JO c ops l Q ((d,r)::Γ) Δ)(hg:o.guard=some (j,g):=by exact rfl)(hj:ops[j]? =some oj:=by exact rfl)(hs:oj.dst=some s:=by exact rfl)(hl:lk Γ s=some (.eq (.bool g)):=by exact rfl)(hd:o.dst=some d:=by exact rfl)(hdN:blt d c.N=true:=by exact rfl)(hh:ek Γ N:=by exact⟨rfl,rfl,trivial⟩):JO c ops (o::l) Q Γ Δ:=by grind [mI]
theorem jc{N:List (Operand×A)}{op:Op}{ty:TypeId}{pos:String}{af:Array Edge}(ht:bB c.M ⟨some d,op,ty,pos,af,none⟩ N [] (λ_:Unit=>(r,[])))(h:JO c ops l Q ((d,r)::Γ) Δ)(hdN:blt d c.N=true:=by exact rfl)(hh:ek Γ N:=by exact⟨rfl,rfl,rfl,trivial⟩):JO c ops (⟨some d,op,ty,pos,af,none⟩::l) Q Γ Δ:=bh hdN ht hh h
theorem kc{N:List (Operand×A)}{F:List D}{e e':D}(ht:bB c.M o N [e] (λ_:Unit=>(r,[e'])))(h:JO c ops l Q ((d,r)::Γ) (e'::F))(hg:o.guard=none:=by exact rfl)(hd:o.dst=some d:=by exact rfl)(hdN:blt d c.N=true:=by exact rfl)(hh:ek Γ N:=by exact⟨rfl,rfl,rfl,trivial⟩):JO c ops (o::l) Q Γ (e::F):=by grind [fu]
theorem gc{N:List (Operand×A)}(ht:bB c.M o N [] (λ_:Unit=>(r,[])))(h:JO c ops l Q ((d,r)::Γ) Δ)(hg:o.guard=some (j,g):=by exact rfl)(hj:ops[j]? =some oj:=by exact rfl)(hs:oj.dst=some s:=by exact rfl)(hl:lk Γ s=some (.eq (.bool g)):=by exact rfl)(hd:o.dst=some d:=by exact rfl)(hdN:blt d c.N=true:=by exact rfl)(hh:ek Γ N:=by exact⟨rfl,rfl,rfl,trivial⟩):JO c ops (o::l) Q Γ Δ:=by grind [mI]
end
section
variable {c:Cx}{Q:Exit->Act->VW->Prop}{Γ Γ0:Ga}{Δ:List D}{full l:List Oper}{acc:List DE}{id d j s:Nat}{r:A}{g b m:Bool}{o oj:Oper}{x:Operand}
theorem dg(h:DN c id full Q Γ0 Δ (acc++[⟨o,d,[(.tmp s,.eq (.bool b))],.eq undef,none,false,λ_=>[]⟩]) l ((d,.eq undef)::Γ) m)(hg:o.guard=some (j,g):=by exact rfl)(hj:full.toArray[j]? =some oj:=by exact rfl)(hs:oj.dst=some s:=by exact rfl)(hl:lk Γ s=some (.eq (.bool b)):=by exact rfl)(hb:(b == g)=false:=by exact rfl)(hd:o.dst=some d:=by exact rfl)(hdN:blt d c.N=true:=by exact rfl):DN c id full Q Γ0 Δ acc (o::l) Γ m:=by grind [NH]
theorem dm(h:DN c id full Q Γ0 Δ (acc++[⟨o,d,[(x,r)],r,none,false,λ_=>[]⟩]) l ((d,r)::Γ) m)(hg:o.guard=none:=by exact rfl)(hd:o.dst=some d:=by exact rfl)(hdN:blt d c.N=true:=by exact rfl)(ho:o.op= .move x:=by exact rfl)(hh:ek Γ [(x,r)]:=by exact⟨rfl,trivial⟩):DN c id full Q Γ0 Δ acc (o::l) Γ m:=gh hg hd hdN (bL ho) hh h
theorem da{N:List (Operand×A)}(ht:bB c.M o N [] (λ_:Unit=>(r,[])))(h:DN c id full Q Γ0 Δ (acc++[⟨o,d,N,r,none,false,λ_=>[]⟩]) l ((d,r)::Γ) m)(hg:o.guard=none:=by exact rfl)(hd:o.dst=some d:=by exact rfl)(hdN:blt d c.N=true:=by exact rfl)(hh:ek Γ N:=by exact⟨rfl,trivial⟩):DN c id full Q Γ0 Δ acc (o::l) Γ m:=by grind [gh]
theorem ea(k:Nat){e:D}{N:List (Operand×A)}(ht:bB c.M o N [e] (λ_:Unit=>(r,[e])))(h:DN c id full Q Γ0 Δ (acc++[⟨o,d,N,r,some (k,false),false,λ_=>[]⟩]) l ((d,r)::Γ) m)(hk:Δ[k]? =some e:=by exact rfl)(hg:o.guard=none:=by exact rfl)(hd:o.dst=some d:=by exact rfl)(hdN:blt d c.N=true:=by exact rfl)(hh:ek Γ N:=by exact⟨rfl,trivial⟩):DN c id full Q Γ0 Δ acc (o::l) Γ m:=by grind [yV]
theorem db{N:List (Operand×A)}(ht:bB c.M o N [] (λ_:Unit=>(r,[])))(h:DN c id full Q Γ0 Δ (acc++[⟨o,d,N,r,none,false,λ_=>[]⟩]) l ((d,r)::Γ) m)(hg:o.guard=none:=by exact rfl)(hd:o.dst=some d:=by exact rfl)(hdN:blt d c.N=true:=by exact rfl)(hh:ek Γ N:=by exact⟨rfl,rfl,trivial⟩):DN c id full Q Γ0 Δ acc (o::l) Γ m:=by grind [gh]
theorem eb(k:Nat){e:D}{N:List (Operand×A)}(ht:bB c.M o N [e] (λ_:Unit=>(r,[e])))(h:DN c id full Q Γ0 Δ (acc++[⟨o,d,N,r,some (k,false),false,λ_=>[]⟩]) l ((d,r)::Γ) m)(hk:Δ[k]? =some e:=by exact rfl)(hg:o.guard=none:=by exact rfl)(hd:o.dst=some d:=by exact rfl)(hdN:blt d c.N=true:=by exact rfl)(hh:ek Γ N:=by exact⟨rfl,rfl,trivial⟩):DN c id full Q Γ0 Δ acc (o::l) Γ m:=by grind [yV]
theorem yX{Δ':List D}(hck:chk full acc=true)(hm:c.P.follows .mixedOrders=true)(hΔ:oS.keepFrom acc 0 Δ++ml acc=Δ')(h:JO c full.toArray l Q Γ Δ'):DN c id full Q Γ0 Δ acc l Γ m:=by grind [NJ]
end
abbrev I(e:Int):A:=.eq (.int .i64 e)
abbrev Pt(b:Nat):A:=.eq (.pointer (some ⟨b,0,none⟩))
section
variable {c:Cx}{ops:Array Oper}{l:List Oper}{Q:Exit->Act->VW->Prop}{Γ:Ga}{Δ F:List D}{r:A}{d s j:Nat}{C C':Code}{o oj:Oper}{b g m:Bool}{x y z:Operand}{T U:TypeId}{M M1 M2 M3:Act->VW->Prop}{id:Nat}{acc:List DE}{full:List Oper}{Γ0:Ga}
theorem jz{Z:Type}{G:Z->Ga}{E:Z->List D}{p:Z->Prop}(z:Z)(hp:p z)(ks:List Nat)(hs:GH (G z) Γ:=by repeat (first |exact trivial |refine⟨rfl,?_⟩))(hk:fx Δ ks=some (E z):=by exact rfl)(hn:ks.Nodup:=by decide):JN c (λa w=>∃z,p z/\St c (G z) (E z) a w) Γ Δ:=mJ z hp (SE.fin ks hs hk hn)
theorem nl(h:JN c M Γ Δ):JO c ops [] (bQ M Q) Γ Δ:=aD (ao h)
theorem xa(h:JN c M3 Γ Δ):JC c (.exit id) (bQ M1 (bQ M2 (Ex.blk id (bQ M3 Q)))) Γ Δ:=by grind [eO,bi,cT,ao]
theorem rx(h:JN c (Q .ret) Γ Δ):JC c .ret (bQ M Q) Γ Δ:=aF (bM h)
theorem br(h:JN c (Q .ret) Γ Δ):JN c (Ex.blk id (bQ M (bQ M1 Q)) .ret) Γ Δ:=bP (bM (bM h))
theorem bn(h:JN c M Γ Δ):JN c (Ex.blk id (bQ M Q) .normal) Γ Δ:=aR (ao h)
theorem df(hm:c.P.follows .mixedOrders=true)(h:JO c full.toArray l Q Γ Δ)(hck:chk full acc=true:=by kernel_rfl)(ht:m=true:=by rfl):DN c id full Q Γ0 Δ acc l Γ m:=Ds hck hm h ht
theorem bx(h:∀b:Nat,JO c ops l Q ((d,.eq (.pointer (some ⟨b,0,none⟩)))::Γ) (.obj b T r::Δ))(hg:o.guard=none:=by exact rfl)(hd:o.dst=some d:=by exact rfl)(hdN:blt d c.N=true:=by exact rfl)(ho:o.op= .box T x:=by exact rfl)(hh:ek Γ [(x,r)]:=by exact⟨rfl,trivial⟩)(hs:r.stor:=by exact rfl):JO c ops (o::l) Q Γ Δ:=aX hg hd hdN (uT ho hs) hh h
theorem lo{k off n:Nat}{T0:TypeId}{a0:A}(ht:eu c.P T n b)(h:JO c ops l Q ((d,r)::Γ) (.obj k T0 a0::F))(hg:o.guard=none:=by exact rfl)(hd:o.dst=some d:=by exact rfl)(hdN:blt d c.N=true:=by exact rfl)(ho:o.op= .load T x:=by exact rfl)(hh:ek Γ [(x,.eq (.pointer (some ⟨k,off,none⟩)))]:=by exact⟨rfl,trivial⟩)(hget:a0.get off n b=some r:=by exact rfl)(hn:b=false->n=1:=by first |exact λ_=>rfl |exact λh=>nomatch h):JO c ops (o::l) Q Γ (.obj k T0 a0::F):=fu hg hd hdN (ax ho ht hn hget) hh h
theorem fl{k off n f:Nat}{ty:TypeId}{pos:String}{af:Array Edge}(hf:aV c.P T f n)(h:JO c ops l Q ((d,.eq (.pointer (some ⟨k,off+n,none⟩)))::Γ) Δ)(hdN:blt d c.N=true:=by exact rfl)(hh:ek Γ [(x,.eq (.pointer (some ⟨k,off,none⟩)))]:=by exact⟨rfl,trivial⟩):JO c ops (⟨some d,.fieldAddr T x f,ty,pos,af,none⟩::l) Q Γ Δ:=bh hdN (aA rfl hf) hh h
theorem xr{i t:Nat}{a0:A}{ty:TypeId}{pos:String}{af:Array Edge}(h:JO c ops l Q ((d,r)::Γ) Δ)(hdN:blt d c.N=true:=by exact rfl)(hl:lk Γ t=some (.tup a0):=by exact rfl)(hi:xN a0 i=some r:=by exact rfl):JO c ops (⟨some d,.extract (.tmp t) i,ty,pos,af,none⟩::l) Q Γ Δ:=bh hdN (mV rfl hi) ⟨hl,trivial⟩ h
theorem ol{t:Ty}{q:List t.den}{e:TypeId}{ty:TypeId}{pos:String}{af:Array Edge}(hT:c.P.underlying T=some (.slice e))(h:JO c ops l Q ((d,.eq (.int .i64 q.length))::Γ) Δ)(hdN:blt d c.N=true:=by exact rfl)(hh:ek Γ [(x,.rep (.slice t) q)]:=by exact⟨rfl,trivial⟩):JO c ops (⟨some d,.call { callee:=.builtin .len,args:= #[x],argTypes:= #[T] },ty,pos,af,none⟩::l) Q Γ Δ:=bh hdN (nP rfl rfl hT) hh h
end
section
variable {P:Program}{M:Md P}{S:FS}{w0:VW}{Γ:Ga}{Δ Δ0:List D}{N:Nat}{fn:Func}{R:Unit->A×List D}{r r':A}
theorem ra(hr:xC P Γ Δ fn.results.toList [r]:=by exact⟨rfl,trivial⟩)(hR:R ()=(bO [r],Δ.take 0):=by exact rfl):JN ⟨P,N,S,w0,av Δ0,none,[],M⟩ (cg P fn (dK S w0 Δ0 R) .ret) Γ Δ:=aQ () [_] 0 hr hR
theorem rb(hr:xC P Γ Δ fn.results.toList [r,r']:=by exact⟨rfl,rfl,trivial⟩)(hR:R ()=(bO [r,r'],Δ.take 0):=by exact rfl):JN ⟨P,N,S,w0,av Δ0,none,[],M⟩ (cg P fn (dK S w0 Δ0 R) .ret) Γ Δ:=aQ () [_,_] 0 hr hR
end
end K
