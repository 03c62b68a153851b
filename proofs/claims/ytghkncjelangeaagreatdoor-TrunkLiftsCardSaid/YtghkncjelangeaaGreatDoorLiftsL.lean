import Derived.Test.YtghkncjelangeaaGreatDoorQDB12
set_option linter.unusedVariables false
set_option linter.unusedSimpArgs false
namespace Go.Proofs.YtghkncjelangeaaGreatDoor
open K Go Go.Proofs
section
variable {k:Nat}
theorem Ai(hk1:k≤1000000){r10:(List aP)×(List (List (List Int)))×bW}(h:OD k r10.1 r10.2.1)(hk:50≤k):dB k r10 k 0=some (.ok ()):=by
 have hb:=W.loop (f:=dB k r10) (Q:=fun o=>o= .ok ()) (fun q y=>∃j:Nat,y=(j:Int)∧j≤4∧q=4 - j) (by
  rintro aX q y ⟨j,hj,hle,hq⟩ ih;subst hj;unfold dB;rw [h.l1];refine W.ite (fun hlt=>?_) (fun hge=>W.ret rfl);obtain⟨t,p,e1,e2,hs⟩:=h.at_ j (by omega);obtain⟨r,f1,f2⟩:=C4 hs;obtain⟨o,g1,g2,g3⟩:=C3 hs;rw [e1,bs,yE hs.hs,bs,e2,bs,sn ⟨hs.hp,hs.hl⟩ hk1,bs,f1,bs,bs,bs,f2,bs,g1,bs,bs,bs,g2,bs,if_neg (not_not_intro rfl),if_neg (not_not_intro rfl),if_neg (not_not_intro rfl),mJ g3 hk1,bs,nT,bs,xP hs.hs,bs,nT,bs,xQ ⟨hs.hp,hs.hl⟩ hk1,bs,bs,Bool.not_true,iF,bI (by omega) (by omega),bs];exact ih (q - 1) _ (by omega) ⟨j+1,by omega,by omega,by omega⟩) 4 k 0 (by omega) ⟨0,rfl,by omega,by omega⟩
 obtain⟨o,eo,rfl⟩:=hb;exact eo
theorem ud(hk:50≤k)(hk1:k≤1000000)(hp:kw k=some true)(a0:aP)(a1:eF)(a2:List (List Int))(a3:List Int):jX k a0 a1 a2 a3=some true:=by
 unfold jX;obtain⟨b,eb,hb⟩:=H8 (t:=a0) (p:=a2) (x:=a1) hk;rw [eb,bs];cases b with
 |true=>rw [iT,hp,bs]
 |false=>
  obtain⟨g1,⟨g2,g3⟩,g4⟩:=hb rfl;obtain⟨r,er,h1,h2⟩:=BE hk hk1 (g1.small hk hk1) g2 g3 g4 (Ue (a:=a3)) (by omega);rw [iF,show mO k a3=some (a3,0,1) from rfl,bs,er,bs,Ai hk1 h1 hk,oK,hp,bs]
end
end Go.Proofs.YtghkncjelangeaaGreatDoor
