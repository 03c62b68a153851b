import Derived.Test.YtghkncjelangeaaGreatDoorQCB12
set_option linter.unusedVariables false
set_option linter.unusedSimpArgs false
namespace Go.Proofs.YtghkncjelangeaaGreatDoor
open K Go Go.Proofs
section
variable {k:Nat}
theorem zC(hk1:k≤1000000){a b:Int}{r10:(List aO)×(List (List (List Int)))×bR}{r11 r12 r13 r14:Int×bR}(h:Oo k r10.1 r10.2.1)(hk:50≤k):dr k a b r10 r11 r12 r13 r14 k 0=some (.ok ()):=by
 have hb:=W.loop (f:=dr k a b r10 r11 r12 r13 r14) (Q:=fun o=>o= .ok ()) (fun q y=>∃j:Nat,y=(j:Int)∧j≤4∧q=4 - j) (by
  rintro aX q y ⟨j,hj,hle,hq⟩ ih;subst hj;unfold dr;rw [h.l1];refine W.ite (fun hlt=>?_) (fun hge=>W.ret rfl);obtain⟨t,p,e1,e2,hs⟩:=h.at_ j (by omega);obtain⟨d,ed⟩:=PT b r11.1 b r12.1 (j:=j) (by omega);obtain⟨x,ex⟩:=PT a r13.1 a r14.1 (j:=j) (by omega);obtain⟨r,f1,f2,f3⟩:=C6 hs d;obtain⟨w,g1,g2⟩:=CY hs x d;rw [e1,bs,yC hs.hs,bs,e2,bs,su ⟨hs.hp,hs.hl⟩ hk1,bs,ed,bs,f1,bs,bs,bs,bs,f2,bs,ex,bs,bs,g1,bs,bs,bs,bs,bs,g2,bs,if_neg (not_not_intro rfl),rM f3 hk1,bs,nT,if_neg (not_not_intro rfl),if_neg (not_not_intro rfl),if_neg (not_not_intro rfl),bs,xU hs.hs,bs,nT,bs,rM ⟨hs.hp,hs.hl⟩ hk1,bs,bs,Bool.not_true,iF,bB (by omega) (by omega),bs];exact ih (q - 1) _ (by omega) ⟨j+1,by omega,by omega,by omega⟩) 4 k 0 (by omega) ⟨0,rfl,by omega,by omega⟩
 obtain⟨o,eo,rfl⟩:=hb;exact eo
theorem sT(hk:50≤k)(hk1:k≤1000000)(hp:kG k=some true)(a0:aO)(a1:eO)(a2:List (List Int))(a3 a4:Int)(a5:List Int):jE k a0 a1 a2 a3 a4 a5=some true:=by
 unfold jE;obtain⟨b,eb,hb⟩:=H5 (t:=a0) (p:=a2) (x:=a1) hk;rw [eb,bs];cases b with
 |true=>rw [iT,hp,bs]
 |false=>
  obtain⟨g1,⟨g2,g3⟩,g4⟩:=hb rfl;obtain⟨r,er,h1,h2⟩:=By hk hk1 (g1.small hk hk1) g2 g3 g4 (T8 (a:=a5)) (by omega);obtain⟨q,eq,_,_,h3⟩:=lD (k:=k) h2 (n:=4) (by omega) (by omega);obtain⟨s,es,_,_,h4⟩:=lD (k:=k) h3 (n:=4) (by omega) (by omega);obtain⟨u,eu,_,_,h5⟩:=lD (k:=k) h4 (n:=3) (by omega) (by omega);obtain⟨v,ev,_,_,h6⟩:=lD (k:=k) h5 (n:=3) (by omega) (by omega);rw [iF,show mQ k a5=some (a5,0,1) from rfl,bs,er,bs,show bV k (r.2.2.1,r.2.2.2.1,r.2.2.2.2) 4=some q from eq,bs,show bV k (q.2.1,q.2.2.1,q.2.2.2) 4=some s from es,bs,show bV k (s.2.1,s.2.2.1,s.2.2.2) 3=some u from eu,bs,show bV k (u.2.1,u.2.2.1,u.2.2.2) 3=some v from ev,bs,zC hk1 h1 hk,oM,hp,bs]
end
end Go.Proofs.YtghkncjelangeaaGreatDoor
