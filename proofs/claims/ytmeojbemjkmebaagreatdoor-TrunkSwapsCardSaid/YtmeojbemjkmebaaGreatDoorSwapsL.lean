import Derived.Test.YtmeojbemjkmebaaGreatDoorREB13
set_option linter.unusedVariables false
set_option linter.unusedSimpArgs false
namespace Go.Proofs.YtmeojbemjkmebaaGreatDoor
open K Go Go.Proofs
section
variable {k:Nat}
theorem BI(hk1:k≤1000000){r10:(List aQ)×(List (List (List Int)))×bT}(h:O8 k r10.1 r10.2.1)(hk:50≤k):dC k r10 k 0=some (.ok ()):=by
 have hb:=W.loop (f:=dC k r10) (Q:=fun o=>o= .ok ()) (fun q y=>∃j:Nat,y=(j:Int)∧j≤4∧q=4 - j) (by
  rintro aS q y ⟨j,hj,hle,hq⟩ ih;subst hj;unfold dC;rw [h.l1];refine W.ite (fun hlt=>?_) (fun hge=>W.ret rfl);obtain⟨t,p,e1,e2,hs⟩:=h.at_ j (by omega);obtain⟨r,f1,f2⟩:=F4 hs;rw [e1,bs,yQ hs.hs,bs,e2,bs,sB ⟨hs.hp,hs.hl⟩ hk1,bs,f1,bs,bs,bs,f2,bs,if_neg (not_not_intro rfl),if_neg (not_not_intro rfl),if_neg (not_not_intro rfl),if_neg (not_not_intro rfl),bs,yl hs.hs,bs,nT,bs,ym ⟨hs.hp,hs.hl⟩ hk1,bs,bs,Bool.not_true,iF,bj (by omega) (by omega),bs];exact ih (q - 1) _ (by omega) ⟨j+1,by omega,by omega,by omega⟩) 4 k 0 (by omega) ⟨0,rfl,by omega,by omega⟩
 obtain⟨o,eo,rfl⟩:=hb;exact eo
theorem uo(hk:50≤k)(hk1:k≤1000000)(hp:kH k=some true)(a0:aQ)(a1:eC)(a2:List (List Int))(a3:List Int):kh k a0 a1 a2 a3=some true:=by
 unfold kh;obtain⟨b,eb,hb⟩:=Iy (t:=a0) (p:=a2) (x:=a1) hk;rw [eb,bs];cases b with
 |true=>rw [iT,hp,bs]
 |false=>
  obtain⟨g1,⟨g2,g3⟩,g4⟩:=hb rfl;obtain⟨r,er,h1,h2⟩:=BS hk hk1 (g1.small hk hk1) g2 g3 g4 (UM (a:=a3)) (by omega);rw [iF,show mS k a3=some (a3,0,1) from rfl,bs,er,bs,BI hk1 h1 hk,oO,hp,bs]
end
end Go.Proofs.YtmeojbemjkmebaaGreatDoor
