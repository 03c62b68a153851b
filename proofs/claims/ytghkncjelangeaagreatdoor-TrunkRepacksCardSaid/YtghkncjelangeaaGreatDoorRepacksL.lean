import Derived.Test.YtghkncjelangeaaGreatDoorQBB12
set_option linter.unusedVariables false
set_option linter.unusedSimpArgs false
namespace Go.Proofs.YtghkncjelangeaaGreatDoor
open K Go Go.Proofs
section
variable {k:Nat}
theorem yg(hk:k=200){a b:Int}{r10:(List aQ)×(List (List (List Int)))×bR}{r11 r12 r13 r14:Int×bR}(h:OU k r10.1 r10.2.1):de k a b r10 r11 r12 r13 r14 k 0=some (.ok ()):=by
 have hk1:k≤1000000:=by omega
 have hb:=W.loop (f:=de k a b r10 r11 r12 r13 r14) (Q:=fun o=>o= .ok ()) (fun q y=>∃j:Nat,y=(j:Int)∧j≤4∧q=4 - j) (by
  rintro aS q y ⟨j,hj,hle,hq⟩ ih;subst hj;unfold de;rw [h.l1];refine W.ite (fun hlt=>?_) (fun hge=>W.ret rfl);obtain⟨t,p,e1,e2,hs⟩:=h.at_ j (by omega);obtain⟨x,ex⟩:=Qm a r11.1 a r12.1 (j:=j) (by omega);obtain⟨d,ed⟩:=Qm b r13.1 b r14.1 (j:=j) (by omega);obtain⟨r,f1,f2,f3⟩:=Bc hk hs x d;rw [e1,bs,yO hs.hs,bs,e2,bs,sx ⟨hs.hp,hs.hl⟩ hk1,bs,ex,bs,ed,bs,f1,bs,bs,bs,bs,bs,f2,bs,if_neg (not_not_intro rfl),if_neg (not_not_intro rfl),mO f3 hk1,bs,nT,bs,yc hs.hs,bs,nT,bs,yd ⟨hs.hp,hs.hl⟩ hk1,bs,bs,Bool.not_true,iF,bq (by omega) (by omega),bs];exact ih (q - 1) _ (by omega) ⟨j+1,by omega,by omega,by omega⟩) 4 k 0 (by omega) ⟨0,rfl,by omega,by omega⟩
 obtain⟨o,eo,rfl⟩:=hb;exact eo
theorem rC(hk:k=200)(hp:kL k=some true)(a0:aQ)(a1:eM)(a2:List (List Int))(a3 a4:Int)(a5:List Int):jg k a0 a1 a2 a3 a4 a5=some true:=by
 have hk0:50≤k:=by omega
 have hk1:k≤1000000:=by omega
 unfold jg;obtain⟨b,eb,hb⟩:=Is (t:=a0) (p:=a2) (x:=a1) hk0;rw [eb,bs];cases b with
 |true=>rw [iT,hp,bs]
 |false=>
  obtain⟨g1,⟨g2,g3⟩,g4⟩:=hb rfl;obtain⟨r,er,h1,h2⟩:=BR hk0 hk1 (g1.small hk0 hk1) g2 g3 g4 (UB (a:=a5)) (by omega);obtain⟨q,eq,_,_,h3⟩:=lI (k:=k) h2 (n:=2) (by omega) (by omega);obtain⟨s,es,_,_,h4⟩:=lI (k:=k) h3 (n:=1) (by omega) (by omega);obtain⟨u,eu,_,_,h5⟩:=lI (k:=k) h4 (n:=4) (by omega) (by omega);obtain⟨v,ev,_,_,h6⟩:=lI (k:=k) h5 (n:=3) (by omega) (by omega);rw [iF,show mU k a5=some (a5,0,1) from rfl,bs,er,bs,show bW k (r.2.2.1,r.2.2.2.1,r.2.2.2.2) 2=some q from eq,bs,show bW k (q.2.1,q.2.2.1,q.2.2.2) 1=some s from es,bs,show bW k (s.2.1,s.2.2.1,s.2.2.2) 4=some u from eu,bs,show bW k (u.2.1,u.2.2.1,u.2.2.2) 3=some v from ev,bs,yg hk h1,oN,hp,bs]
end
end Go.Proofs.YtghkncjelangeaaGreatDoor
