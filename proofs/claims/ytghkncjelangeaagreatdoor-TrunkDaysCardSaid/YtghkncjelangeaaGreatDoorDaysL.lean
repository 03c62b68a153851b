import Derived.Test.YtghkncjelangeaaGreatDoorQAB12
set_option linter.unusedVariables false
set_option linter.unusedSimpArgs false
namespace Go.Proofs.YtghkncjelangeaaGreatDoor
open K Go Go.Proofs
section
variable {k:Nat}
theorem EY(hk1:k≤1000000){a:Int}{r10:(List aS)×(List (List (List Int)))×bS}{r11 r12:Int×bS}(h:N8 k r10.1 r10.2.1)(hk:50≤k):dR k a r10 r11 r12 k 0=some (.ok ()):=by
 have hb:=W.loop (f:=dR k a r10 r11 r12) (Q:=fun o=>o= .ok ()) (fun q y=>∃j:Nat,y=(j:Int)∧j≤4∧q=4 - j) (by
  rintro aW q y ⟨j,hj,hle,hq⟩ ih;subst hj;unfold dR;rw [h.l1];refine W.ite (fun hlt=>?_) (fun hge=>W.ret rfl);obtain⟨t,p,e1,e2,hs⟩:=h.at_ j (by omega);obtain⟨d,ed⟩:=RL a r11.1 a r12.1 (j:=j) (by omega);obtain⟨r,f1,f2,f3,f4⟩:=IM hs d
  rw [e1,bs,yj hs.hs,bs,e2,bs,rZ ⟨hs.hp,hs.hl⟩ hk1,bs,ed,bs,f1,bs,bs,bs,bs,f2,bs,xb hs.hs,bs,bs,xc hs.hs,bs,if_neg (not_not_intro rfl),hs.trk,bs,bs,bs,hs.ref,bs,if_neg (not_not_intro rfl),if_neg (not_not_intro rfl),
   mB f3 hk1,bs,nT,rz f4 hk1,bs,nT,bs,xC hs.hs,bs,nT,bs,rz ⟨hs.hp,hs.hl⟩ hk1,bs,bs,Bool.not_true,iF,bC (by omega) (by omega),bs]
  exact ih (q - 1) _ (by omega) ⟨j+1,by omega,by omega,by omega⟩) 4 k 0 (by omega) ⟨0,rfl,by omega,by omega⟩
 obtain⟨o,eo,rfl⟩:=hb;exact eo
theorem ux(hk:50≤k)(hk1:k≤1000000)(hp:ku k=some true)(a0:aS)(a1:eF)(a2:List (List Int))(a3:Int)(a4:List Int):kK k a0 a1 a2 a3 a4=some true:=by
 unfold kK;obtain⟨b,eb,hb⟩:=HE (t:=a0) (p:=a2) (x:=a1) hk;rw [eb,bs];cases b with
 |true=>rw [iT,hp,bs]
 |false=>
  obtain⟨g1,⟨g2,g3⟩,g4⟩:=hb rfl;obtain⟨r,er,h1,h2⟩:=A7 hk hk1 (g1.small hk hk1) g2 g3 g4 (TB (a:=a4)) (by omega);obtain⟨q,eq,_,_,h3⟩:=nz (k:=k) h2 (n:=3) (by omega) (by omega);obtain⟨s,es,_,_,h4⟩:=nz (k:=k) h3 (n:=2) (by omega) (by omega);rw [iF,show mH k a4=some (a4,0,1) from rfl,bs,er,bs,show cD k (r.2.2.1,r.2.2.2.1,r.2.2.2.2) 3=some q from eq,bs,show cD k (q.2.1,q.2.2.1,q.2.2.2) 2=some s from es,bs,EY hk1 h1 hk,oy,hp,bs]
end
end Go.Proofs.YtghkncjelangeaaGreatDoor
