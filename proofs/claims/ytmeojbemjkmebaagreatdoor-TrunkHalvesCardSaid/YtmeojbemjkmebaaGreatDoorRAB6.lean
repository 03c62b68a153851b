import Derived.Test.YtmeojbemjkmebaaGreatDoorRAB5
import Derived.Laws.Strings
import Derived.Laws.Strings2
import Derived.Laws.Strings3
import Derived.Laws.DeepStrings4
import Derived.Laws.RangeString
import Derived.Laws.BytesString
set_option linter.unusedSimpArgs false
set_option linter.unusedVariables false
namespace Go.Proofs.YtmeojbemjkmebaaGreatDoor
namespace K
open Go
section
variable {c:Cx}{P:Program}{M:Md P}{o:Oper}{N N':List (Operand×A)}{Δ:List D}{T1 T2:TypeId}{t1 t2:Ty}{l1:List t1.den}{l2:List t2.den}{d:Int}{S:FS}{w:World}{v a b:Value}
def HU(y d:Int):D:=.sl (.slice none 0 0) 0 (.int .i64) (List.replicate (y - d).natAbs (0:Int))
theorem BJ:(HU d d).holds S w:=.inl ⟨rfl,by simp⟩
theorem J6{y:Int}(h:(HU y d).holds S w):y=d:=by
 rcases h with⟨_,h⟩ |⟨_,_,_,h,_⟩
 ·simp at h;omega
 ·cases h
def Fv(d:Int)(T1:TypeId)(t1:Ty)(l1:List t1.den)(T2:TypeId)(t2:Ty)(l2:List t2.den):List Value→List D
 |[.int .i64 y,a,b]=>[.sl a T1 t1 l1,.sl b T2 t2 l2,HU y d]
 |_=>[yd]
def tri3(d:Int)(T1:TypeId)(t1:Ty)(l1:List t1.den)(T2:TypeId)(t2:Ty)(l2:List t2.den):Value→List D
 | .agg cs=>Fv d T1 t1 l1 T2 t2 l2 cs.toList
 |_=>[yd]
theorem Ft{cs:List Value}(h:∀e∈Fv d T1 t1 l1 T2 t2 l2 cs,∃S w,e.holds S w):∃a b,cs=[.int .i64 d,a,b]:=by
 unfold Fv at h;split at h
 ·obtain⟨S,w,hb⟩:=h _ (.tail _ (.tail _ (.head _)));obtain rfl:=J6 hb;exact⟨_,_,rfl⟩
 ·obtain⟨S,w,hb⟩:=h yd (by simp);exact absurd hb rJ
theorem Cb(h:∀e∈tri3 d T1 t1 l1 T2 t2 l2 v,∃S w,e.holds S w):∃a b,v= .agg #[.int .i64 d,a,b]:=by
 cases v with
 |agg cs=>
  obtain⟨a,b,e⟩:=Ft h;obtain⟨l⟩:=cs;exact⟨a,b,by simp only [] at e;rw [e]⟩
 |_=>
  obtain⟨S,w,hb⟩:=h yd (by simp [tri3]);exact absurd hb rJ
theorem t8(ha:bi a=true)(hb:bi b=true)(h:(A.eq (.agg #[.int .i64 d,a,b])).holds S w v):(A.agg (.pair (.eq (.int .i64 d)) (.pair (.eq a) (.eq b)))).holds S w v:=
 ⟨[.int .i64 d,a,b],⟨[.int .i64 d],[a,b],rfl,⟨rfl,rfl⟩,[a],[b],rfl,⟨rfl,ha⟩,rfl,hb⟩,h⟩
theorem Ao(h:bz M o N Δ (fun z:Value×Value=>(.agg (.pair (.eq (.int .i64 d)) (.pair (.eq z.1) (.eq z.2))),[.sl z.1 T1 t1 l1,.sl z.2 T2 t2 l2]))):
 bz M o N Δ (fun z:Value×Value=>(.eq (.agg #[.int .i64 d,z.1,z.2]),[.sl z.1 T1 t1 l1,.sl z.2 T2 t2 l2,HU d d])):=
 ⟨h.1,fun ro S w a next Q hd hn hO k=>h.2 ro S w a next Q hd hn hO fun x S' v' u h1 h2 h3 h4=>by
  have hf:∀y,aB [.sl x.1 T1 t1 l1,.sl x.2 T2 t2 l2,HU d d] y→aB [D.sl x.1 T1 t1 l1,.sl x.2 T2 t2 l2] y:=fun y ⟨e,he,hb⟩=>by
   simp only [List.mem_cons,List.not_mem_nil,or_false] at he
   rcases he with rfl |rfl |rfl
   ·
    exact⟨_,by simp,hb⟩
   ·
    exact⟨_,by simp,hb⟩
   ·
    cases hb
  refine k x S' v' u h1 ?_ ⟨fun e he=>?_,fun y hy=>h3.own y (hf y hy),?_,fun y hy=>h3.far y (hf y hy),h3.sees,h3.domA,h3.domZ⟩ fun y hy=>h4 y (hf y hy)
  ·
   obtain⟨cs,⟨c1,c2,rfl,⟨rfl,_⟩,c3,c4,rfl,⟨rfl,_⟩,rfl,_⟩,e⟩:=h2
   exact e
  ·
   simp only [List.mem_cons,List.not_mem_nil,or_false] at he
   rcases he with rfl |rfl |rfl
   ·
    exact h3.holds _ (by simp)
   ·
    exact h3.holds _ (by simp)
   ·
    exact BJ
  ·
   have hp:=h3.apart
   simp only [List.pairwise_cons,List.mem_cons,List.not_mem_nil,or_false] at hp⊢
   refine⟨?_,?_,?_,List.Pairwise.nil⟩
   ·
    rintro e (rfl |rfl)
    ·
     exact hp.1 _ rfl
    ·
     intro y _ h;cases h
   ·
    rintro e rfl y _ h
    cases h
   ·
    intro e he;cases he⟩
end
end K
end Go.Proofs.YtmeojbemjkmebaaGreatDoor
set_option linter.unusedVariables false
namespace Go.Proofs.YtmeojbemjkmebaaGreatDoor
namespace K
open Go
@[reducible] def jK{α β:Type}(x:α×β):α×(β ⊕ Value):=(x.1,.inl x.2)
section
variable {c:Cx}{Γ:Ga}{u r:Ty}{v:Value}{T:TypeId}{F:List D}
theorem wZ{l:List (Ty.agg (.pair r (.slice u))).den}:SE c Γ (.sl v T (.agg (.pair r (.slice u))) l::F) Γ (.sl v T (.agg (.pair r (.alt (.slice u)))) (List.map jK l)::F):=fun a w h=>
 h.swap (d:=.sl v T (.agg (.pair r (.slice u))) l) (d':=.sl v T (.agg (.pair r (.alt (.slice u)))) (List.map jK l)) (fun _=>Iff.rfl) fun S hs=>by
  rcases hs with⟨h1,rfl⟩ |⟨b,cap,cc,rfl,q1,q1',q2,q3,q4⟩
  ·
   exact .inl ⟨h1,rfl⟩
  ·
   refine .inr ⟨b,cap,cc,by rw [List.length_map],by rw [List.length_map];exact q1,q1',q2,q3,?_⟩
   rw [List.length_map]
   refine yY (R':=rd S w (.agg (.pair r (.alt (.slice u))))) (fun x cs hx=>?_) q4
   obtain⟨c1,c2,e,g1,g2⟩:=hx
   exact⟨c1,c2,e,g1,g2,aJ (.slice u) g2⟩
theorem xb{nm:Value}{Tu:TypeId}{d:List u.den}{l:List (Ty.agg (.pair r (.slice u))).den}{i:Nat}{q:r.den}:
 SE c Γ (.sl nm Tu u d:: .sl v T (.agg (.pair r (.alt (.slice u)))) (List.set (List.map jK l) i (q,.inr nm))::F) Γ (.sl v T (.agg (.pair r (.slice u))) (List.set l i (q,d))::F):=fun a w h=>by
 obtain⟨h1,h2,S,h3,h4,h5,h6,h7⟩:=rG h
 obtain⟨xs,e1,e2⟩:=h7
 have e3:xs=[nm]:=by
  have l1:=aJ (.slice u) e1;match xs,l1 with
  |[x],_=>simp [mk] at e2;rw [e2]
 subst e3
 have hd:(D.sl v T (.agg (.pair r (.slice u))) (List.set l i (q,d))).holds S w:=by
  rcases h5.holds _ (List.mem_cons_self ..) with⟨g1,g2⟩ |⟨b,cap,cc,rfl,q1,q1',q2,q3,q4⟩
  ·refine .inl ⟨g1,?_⟩;cases l with
   |nil=>rfl
   |cons x l=>cases i <;> cases g2
  ·have hlen:(List.set (List.map jK l) i (q,Sum.inr nm)).length=(List.set l i (q,d)).length:=by simp
   refine .inr ⟨b,cap,cc,by rw [hlen],by rw [←hlen];exact q1,q1',q2,q3,?_⟩;rw [hlen] at q4;refine yZ (R:=rd S w (.agg (.pair r (.slice u)))) (fun x cs hx=>?_) (fun cs hx=>?_) q4
   ·obtain⟨c1,c2,e,g1,g2⟩:=hx;exact⟨c1,c2,e,g1,g2.1⟩
   ·obtain⟨c1,c2,e,g1,g2⟩:=hx;obtain⟨rfl,_⟩:=g2;exact⟨c1,_,e,g1,e1⟩
 have hp:=List.pairwise_cons.1 h5.apart
 refine⟨h1,h2,S,h3,fun x ⟨e,he,hb⟩=>?_,h5.re ⟨fun e he=>?_,fun x ⟨e,he,hb⟩=>?_,List.pairwise_cons.2 ⟨fun e he=>hp.1 e he,hp.2⟩⟩ (fun x ⟨e,he,hb⟩=>by
  rcases List.mem_cons.1 he with rfl |he
  ·exact⟨_,List.mem_cons_self ..,hb⟩
  ·exact⟨e,List.mem_cons_of_mem _ he,hb⟩) (fun _ h=>.inl h),h6⟩
 ·
  rcases List.mem_cons.1 he with rfl |he
  ·exact h4 x ⟨_,List.mem_cons_self ..,hb⟩
  ·exact h4 x ⟨e,List.mem_cons_of_mem _ he,hb⟩
 ·
  rcases List.mem_cons.1 he with rfl |he
  ·exact hd
  ·exact h5.holds e (List.mem_cons_of_mem _ he)
 ·
  rcases List.mem_cons.1 he with rfl |he
  ·exact h5.own x ⟨_,List.mem_cons_self ..,hb⟩
  ·exact h5.own x ⟨e,List.mem_cons_of_mem _ he,hb⟩
theorem ti{P:Program}{M:Md P}{o:Oper}{x:Operand}{T:TypeId}{v nm:Value}{TE:TypeId}{n:Int}{l:List (Ty.agg (.pair (.int .i64) (.alt (.slice u)))).den}{k i:Nat}(ho:o.op= .load T x)(ht:dC P T 1 false)
 (hk:k=i * 2+1) (hl:l[i]? =some (n,.inr nm)):bz M o [(x,.eq (kO v k))] [.sl v TE (.agg (.pair (.int .i64) (.alt (.slice u)))) l] (fun _:Unit=>(.eq nm,[.sl v TE (.agg (.pair (.int .i64) (.alt (.slice u)))) l])):=
 KJ (fZ (t:=.agg (.pair (.int .i64) (.alt (.slice u)))) (off:=1) (z:=Sum.inr nm) (u:=.alt (.slice u)) ho ht (fun _=>rfl) hk hl rfl) fun S w a h=>by
  obtain⟨xs,e1,e2⟩:=h
  obtain⟨rfl,_⟩:=e1
  exact(by simpa [mk] using e2:a=nm)
theorem rh{P:Program}{M:Md P}{o:Oper}{x y:Operand}{T:TypeId}{v nm nm':Value}{TE:TypeId}{n:Int}{m:List (Ty.agg (.pair (.int .i64) (.alt (.slice u)))).den}{k i:Nat}(ho:o.op= .store T x y)(ht:dC P T 1 false)
 (hk:k=i * 2+1) (hl:(List.set m i (n,.inr nm))[i]? =some (n,.inr nm)) (hv:bi nm'=true):
 bz M o [(x,.eq (kO v k)),(y,.eq nm')] [.sl v TE (.agg (.pair (.int .i64) (.alt (.slice u)))) (List.set m i (n,.inr nm))] (fun _:Unit=>(.eq undef,[.sl v TE (.agg (.pair (.int .i64) (.alt (.slice u)))) (List.set m i (n,.inr nm'))])):=by
 have h:=nj (M:=M) (v:=v) (TE:=TE) (t:=.agg (.pair (.int .i64) (.alt (.slice u)))) (off:=1) (i:=i) ho ht hk hl (.altR hv) hv (.agg (.right .whole rfl))
 rw [List.set_set] at h
 exact h
end
end K
end Go.Proofs.YtmeojbemjkmebaaGreatDoor
set_option linter.unusedVariables false
set_option linter.unusedSimpArgs false
namespace Go.Proofs.YtmeojbemjkmebaaGreatDoor
namespace K
open Go
section
variable {P:Program}{M:Md P}{o:Oper}{x y z:Operand}{T T':TypeId}{v u:Value}
end
end K
end Go.Proofs.YtmeojbemjkmebaaGreatDoor
