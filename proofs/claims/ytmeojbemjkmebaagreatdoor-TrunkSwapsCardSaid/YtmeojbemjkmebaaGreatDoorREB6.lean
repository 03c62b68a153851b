import Derived.Test.YtmeojbemjkmebaaGreatDoorREB5
import Derived.Laws.Strings
import Derived.Laws.Strings2
import Derived.Laws.Strings3
import Derived.Laws.DeepStrings4
import Derived.Laws.RangeString
import Derived.Laws.BytesString
set_option linter.unusedSimpArgs false
set_option linter.unusedVariables false
namespace Go.Proofs.YtmeojbemjkmebaaGreatDoor
namespace K
open Go
section
variable {c:Cx}{Γ:Ga}{u:Ty}{v:Value}{T:TypeId}{F:List D}
theorem F5{l:List (Ty.slice u).den}:SE c Γ (.sl v T (.slice u) l::F) Γ (.sl v T (.alt (.slice u)) (List.map Sum.inl l)::F):=fun a w h=>
 h.swap (d:=.sl v T (.slice u) l) (d':=.sl v T (.alt (.slice u)) (List.map Sum.inl l)) (fun _=>Iff.rfl) fun S hs=>by
  rcases hs with⟨h1,rfl⟩ |⟨b,cap,cc,rfl,q1,q1',q2,q3,q4⟩
  ·
   exact .inl ⟨h1,rfl⟩
  ·
   refine .inr ⟨b,cap,cc,by rw [List.length_map],by rw [List.length_map];exact q1,q1',q2,q3,?_⟩
   rw [List.length_map]
   exact zP (f:=Sum.inl) (R':=rd S w (.alt (.slice u))) (fun x cs hx=>⟨hx,aN (.slice u) hx⟩) q4
theorem F6{nm:Value}{Tu:TypeId}{d:List u.den}{l:List (Ty.slice u).den}{i:Nat}:
 SE c Γ (.sl nm Tu u d:: .sl v T (.alt (.slice u)) (List.set (List.map Sum.inl l) i (.inr nm))::F) Γ (.sl v T (.slice u) (List.set l i d)::F):=fun a w h=>by
 obtain⟨h1,h2,S,h3,h4,h5,h6,h7⟩:=su h
 obtain⟨xs,e1,e2⟩:=h7
 have e3:xs=[nm]:=by
  have l1:=aN (.slice u) e1;match xs,l1 with
  |[x],_=>simp [mk] at e2;rw [e2]
 subst e3
 have hd:(D.sl v T (.slice u) (List.set l i d)).holds S w:=by
  rcases h5.holds _ (List.mem_cons_self ..) with⟨g1,g2⟩ |⟨b,cap,cc,rfl,q1,q1',q2,q3,q4⟩
  ·refine .inl ⟨g1,?_⟩;cases l with
   |nil=>rfl
   |cons x l=>cases i <;> cases g2
  ·have hlen:(List.set (List.map (Sum.inl (β:=Value)) l) i (.inr nm)).length=(List.set l i d).length:=by simp
   refine .inr ⟨b,cap,cc,by rw [hlen],by rw [←hlen];exact q1,q1',q2,q3,?_⟩;rw [hlen] at q4;refine zQ (R:=rd S w (.slice u)) (R':=rd S w (.alt (.slice u))) (f:=Sum.inl) (fun x cs hx=>hx.1) (fun cs hx=>?_) q4;obtain⟨rfl,_⟩:=hx;exact e1
 have hp:=List.pairwise_cons.1 h5.apart
 refine⟨h1,h2,S,h3,fun x ⟨e,he,hb⟩=>?_,h5.re ⟨fun e he=>?_,fun x ⟨e,he,hb⟩=>?_,List.pairwise_cons.2 ⟨fun e he=>hp.1 e he,hp.2⟩⟩ (fun x ⟨e,he,hb⟩=>by
  rcases List.mem_cons.1 he with rfl |he
  ·exact⟨_,List.mem_cons_self ..,hb⟩
  ·exact⟨e,List.mem_cons_of_mem _ he,hb⟩) (fun _ h=>.inl h),h6⟩
 ·
  rcases List.mem_cons.1 he with rfl |he
  ·exact h4 x ⟨_,List.mem_cons_self ..,hb⟩
  ·exact h4 x ⟨e,List.mem_cons_of_mem _ he,hb⟩
 ·
  rcases List.mem_cons.1 he with rfl |he
  ·exact hd
  ·exact h5.holds e (List.mem_cons_of_mem _ he)
 ·
  rcases List.mem_cons.1 he with rfl |he
  ·exact h5.own x ⟨_,List.mem_cons_self ..,hb⟩
  ·exact h5.own x ⟨e,List.mem_cons_of_mem _ he,hb⟩
theorem Jw{c:Cx}{ops:Array Oper}{l:List Oper}{Q:Exit→Act→VW→Prop}{Γ:Ga}{pre:List D}{T:TypeId}{z:Value×(Nat→Value)}{ls:List (List Int)}
 (h:bu z.1=true→JO c ops l Q Γ (pre++fC T z ls)):JO c ops l Q Γ (pre++fC T z ls):=by
 refine ct (fD (Δ':=.sl z.1 T .val (ek z.2 0 ls)::(pre++kV z.2 0 ls)) List.perm_middle) ?_
 refine fy fun hv=>?_
 have hp:(D.sl z.1 T .val (ek z.2 0 ls)::(pre++kV z.2 0 ls)).Perm (pre++fC T z ls):=List.perm_middle.symm
 exact ct (fD hp) (h hv)
theorem L8{P:Program}{M:Md P}{o:Oper}{N:List (Operand×A)}{Δ Δ':List D}{r r':A}(h:bJ M o N Δ (fun _:Unit=>(r,Δ')))(hr:∀S w v,r.holds S w v→r'.holds S w v):bJ M o N Δ (fun _:Unit=>(r',Δ')):=
 ⟨h.1,fun ro S w a next Q hd hn hO k=>h.2 ro S w a next Q hd hn hO fun x S' v' u h1 h2 h3 h4=>k x S' v' u h1 (hr _ _ _ h2) h3 h4⟩
theorem vB{P:Program}{M:Md P}{o:Oper}{x:Operand}{T:TypeId}{v nm:Value}{TE:TypeId}{u:Ty}{l:List (Ty.alt (.slice u)).den}{k i:Nat}(ho:o.op= .load T x)(ht:dJ P T 1 false)
 (hk:k=i * (Ty.slice u).cells) (hl:l[i]? =some (.inr nm)):bJ M o [(x,.eq (qG v k))] [.sl v TE (.alt (.slice u)) l] (fun _:Unit=>(.eq nm,[.sl v TE (.alt (.slice u)) l])):=
 L8 (dM (t:=.alt (.slice u)) (off:=0) (z:=Sum.inr nm) (u:=.alt (.slice u)) ho ht (fun _=>rfl) hk hl rfl) fun S w a h=>by
  obtain⟨xs,e1,e2⟩:=h
  obtain⟨rfl,_⟩:=e1
  exact(by simpa [mk] using e2:a=nm)
theorem sq{α β:Type}{l:List α}{i:Int}{x:α}(e:aR l i=some x)(nm:β):aR (List.set (List.map Sum.inl l) (Int.toNat i) (.inr nm)) i=some (.inr nm):=by
 obtain⟨h1,h2,h3⟩:=co e;simp_all [aR]
end
end K
end Go.Proofs.YtmeojbemjkmebaaGreatDoor
set_option linter.unusedVariables false
namespace Go.Proofs.YtmeojbemjkmebaaGreatDoor
namespace K
open Go
section
variable {c:Cx}{P:Program}{M:Md P}{o:Oper}{N N':List (Operand×A)}{Δ:List D}{T1 T2:TypeId}{t1 t2:Ty}{l1:List t1.den}{l2:List t2.den}{d:Int}{S:FS}{w:World}{v a b:Value}
end
end K
end Go.Proofs.YtmeojbemjkmebaaGreatDoor
set_option linter.unusedVariables false
namespace Go.Proofs.YtmeojbemjkmebaaGreatDoor
namespace K
open Go
@[reducible] def UE{α β:Type}(x:α×β):α×(β ⊕ Value):=(x.1,.inl x.2)
section
variable {c:Cx}{Γ:Ga}{u r:Ty}{v:Value}{T:TypeId}{F:List D}
end
end K
end Go.Proofs.YtmeojbemjkmebaaGreatDoor
set_option linter.unusedVariables false
set_option linter.unusedSimpArgs false
namespace Go.Proofs.YtmeojbemjkmebaaGreatDoor
namespace K
open Go
section
variable {P:Program}{M:Md P}{o:Oper}{x y z:Operand}{T T':TypeId}{v u:Value}
end
end K
end Go.Proofs.YtmeojbemjkmebaaGreatDoor
