import Derived.Test.YtcnpijmfgfnpiaaGreatDoorXYB11
set_option linter.unusedVariables false
set_option linter.unusedSimpArgs false
namespace Go.Proofs.YtcnpijmfgfnpiaaGreatDoor
open K Go Go.Proofs
section
variable {k:Nat}
theorem vd{w:Int→Bool}{b:Bool}{l:List Int}(h:∀x∈l,w x=b):xj w l=l:=by
 unfold xj;cases b with
 |true=>
  rw [List.filter_eq_nil_iff.2 (fun x hx=>by simp [h x hx]),List.filter_eq_self.2 (fun x hx=>h x hx)];rfl
 |false=>
  rw [List.filter_eq_self.2 (fun x hx=>by simp [h x hx]),List.filter_eq_nil_iff.2 (fun x hx=>by simp [h x hx]),List.append_nil]
theorem nP{w:Int→Bool}{b:Bool}:∀{l:List Int} {u:Bool},(u=true→b=true)→(∀x∈l,w x=b)→fU w u l=[]
 |[],_,_,_=>rfl
 |x::l,u,hu,h=>by
  have hx:=h x (by simp)
  have hl:∀y∈l,w y=b:=fun y hy=>h y (by simp [hy])
  rw [fU,hx]
  cases b with
  |true=>exact nP (fun _=>rfl) hl
  |false=>
   cases u with
   |true=>cases hu rfl
   |false=>exact nP (fun h=>nomatch h) hl
structure Pl(l0 r:List ic)(w0:List Int)(i:Nat):Prop where
 len:r.length=l0.length
 at_:∀(j:Nat) (x:ic),r[j]? =some x→∃x0,l0[j]? =some x0∧x.1=x0.1∧(j < i→x.2=w0)
theorem AB(hk1:k≤1000000){l0:List ic}(hl:l0.length < k){w0:List Int}(h0:∀x,l0[0]? =some x→x.2=w0)(hw:w0.length≤1000):W (de k k (l0,1)) fun r=>Pl l0 r w0 l0.length:=by
 refine W.loop (f:=de k) (fun q y=>∃i:Nat,y.2=(i:Int)∧1≤i∧i≤l0.length+1∧q=l0.length+1 - i∧Pl l0 y.1 w0 i) ?_ l0.length k (l0,1) hl ⟨1,rfl,by omega,by omega,by omega,rfl,fun j x hx=>⟨x,hx,rfl,fun hj=>h0 x (by rwa [show j=0 by omega] at hx)⟩⟩;rintro aL q ⟨l,y⟩ ⟨i,hi,h1,hle,hq,ha⟩ ih;simp only at hi ha;subst hi;unfold de;dsimp only;have hll:=ha.len;refine W.ite (fun hlt=>?_) (fun hge=>W.ret ⟨hll,fun j x hx=>?_⟩)
 ·have hi:i < l.length:=by omega
  have e0:a8 l 0=some l[0]:=cJ (i:=0) (by omega);obtain⟨x0,a1,a2,a3⟩:=ha.at_ 0 l[0] (List.getElem?_eq_getElem (by omega));have a4:l[0].2=w0:=a3 (by omega);rw [e0,bs,a4,yR (by omega),bs,cJ hi,bs,bY (by omega) (by omega),bs];refine ih (q - 1) (_,(i:Int)+1) (by omega) ⟨i+1,by show(i:Int)+1=((i+1:Nat):Int);omega,by omega,by omega,by omega,by simp only [List.length_set];exact hll,fun j x hx=>?_⟩;simp only [Int.toNat_natCast] at hx;by_cases e:i=j
  ·subst e;rw [List.getElem?_set_self hi] at hx;obtain rfl:=Option.some.inj hx;obtain⟨x1,b1,b2,_⟩:=ha.at_ i l[i] (List.getElem?_eq_getElem hi);exact⟨x1,b1,b2,fun _=>rfl⟩
  ·rw [List.getElem?_set_ne e] at hx;obtain⟨x1,b1,b2,b3⟩:=ha.at_ j x hx;exact⟨x1,b1,b2,fun hj=>b3 (by omega)⟩
 ·obtain⟨x1,b1,b2,b3⟩:=ha.at_ j x hx;exact⟨x1,b1,b2,fun hj=>b3 (by omega)⟩
theorem Pl.size{t:bW}{r:List ic}{w0:List Int}{n:Nat}(h:Pl t.2.1 r w0 n)(l:List Int):eA (t.1,r,t.2.2) l=eA t l:=by
 induction l with
 |nil=>rfl
 |cons x l ih=>
  have e:iG (t.1,r,t.2.2) x=iG t x:=by
   unfold iG;dsimp only;rcases Nat.lt_or_ge x.toNat r.length with hx |hx
   ·obtain⟨x0,a1,a2,_⟩:=h.at_ x.toNat _ (List.getElem?_eq_getElem hx);rw [List.getElem?_eq_getElem hx,a1];exact a2
   ·rw [List.getElem?_eq_none hx,List.getElem?_eq_none (by have:=h.len;omega)]
  simp only [eA,e,ih]
theorem BV{t:bW}{p:List (List Int)}{w0:List Int}(hw:∀l∈p,∀x∈l,∀d,rf t d x=decide (d∈w0)):∀(n:Nat) (d:Int),sG t n d p=0:=by
 have hr:∀(l:List Int),l∈p→∀(n:Nat) (d:Int),sJ t n d l=0:=by
  intro l hl n
  induction n with
  |zero=>intro d;rfl
  |succ n ih=>
   intro d;rw [sJ,nP (u:=false) (b:=decide (d∈w0)) (by simp) (fun x hx=>hw l hl x hx d),vd (b:=decide (d∈w0)) (fun x hx=>hw l hl x hx d),ih];rfl
 intro n d
 unfold sG;clear hw
 induction p with
 |nil=>rfl
 |cons l p ih=>rw [List.map_cons,List.sum_cons,hr l (by simp),ih (fun l hl=>hr l (by simp [hl]))]
theorem y8{t:bW}{p:List (List Int)}{w0:List Int}(hw:∀l∈p,∀x∈l,∀d,rf t d x=decide (d∈w0)):∀n,wY t p n=p
 |0=>rfl
 |n+1=>by
  rw [wY,y8 hw n,wQ]
  exact(List.map_congr_left fun l hl=>vd (fun x hx=>hw l hl x hx _)).trans (List.map_id p)
theorem sD(hk:50≤k)(hk1:k≤1000000)(hp:jw k=some true)(a0:List Int):jh k a0=some true:=by
 unfold jh;rw [show lJ k a0=some (a0,0,1) from rfl,bs];obtain⟨r3,e3,hg,his,_⟩:=HB hk hk1 (l:=(a0,0,1)) (m:=0) ⟨by simp,by simp⟩ (by decide) (a:=5) (by decide);rw [show oM k (a0,0,1) 5=some r3 from e3,bs,his];by_cases c:kg r3.1 r3.2.1=0
 ·rw [decide_eq_true c,nT];have gp:=t7 c;have hth:=hg.kit.things
  have hw0:∃w0:List Int,w0.length≤4∧(∀x,r3.1.2.1[0]? =some x→x.2=w0):=by
   cases h:r3.1.2.1[0]? with
   |none=>exact⟨[],by simp,fun x hx=>nomatch hx⟩
   |some x=>exact⟨x.2,(hg.kit.item x (List.mem_of_getElem? h)).2.2.1,fun y hy=>by cases hy;rfl⟩
  obtain⟨w0,hw4,hw0⟩:=hw0;obtain⟨r,er,ha⟩:=AB hk1 (l0:=r3.1.2.1) (by omega) hw0 (by omega);rw [er,bs]
  have hkit:AH (r3.1.1,r,r3.1.2.2) 5 3:=⟨hg.kit.days,by show(r.length:Int)≤5;rw [ha.len];exact hth,fun x hx=>by
   obtain⟨j,hj,rfl⟩:=List.getElem_of_mem hx;obtain⟨x0,a1,a2,a3⟩:=ha.at_ j _ (List.getElem?_eq_getElem hj);have hj':j < r3.1.2.1.length:=by rw [←ha.len];exact hj
   have b0:=hw0 _ (List.getElem?_eq_getElem (show 0 < r3.1.2.1.length by omega));have b1:=hg.kit.item _ (List.getElem_mem (show 0 < r3.1.2.1.length by omega));have b2:=hg.kit.item x0 (List.mem_of_getElem? a1);have a4:=a3 hj';rw [b0] at b1;rw [a2,a4];exact⟨b2.1,b2.2.1,b1.2.2⟩,hg.kit.trunks,hg.kit.rooms⟩
  have hT:=hkit.chk (by decide) (by decide);have gp':jX (r3.1.1,r,r3.1.2.2) r3.2.1:=⟨sU hT,gp.len,gp.nd,fun x hx=>by have:=gp.rng x hx;show 0≤x∧x < (r.length:Int);rw [ha.len];exact this,fun i hi=>gp.all i (by have hi':i < r.length:=hi;rw [ha.len] at hi';exact hi'),fun i hi=>by rw [ha.size];exact gp.room i hi⟩;have hG:sB (r3.1.1,r,r3.1.2.2) r3.2.1 5:=⟨hkit,hg.len,hg.short⟩;have hA:At k (r3.1.1,r,r3.1.2.2) r3.2.1:=hG.at (a:=5) hk hk1 (by decide) (gp'.chk hT)
  have hw:∀l∈r3.2.1,∀x∈l,∀d,rf (r3.1.1,r,r3.1.2.2) d x=decide (d∈w0):=fun l hl x hx d=>by
   have hx':=gp'.rng x (List.mem_flatten.2 ⟨l,hl,hx⟩);have hxl:x.toNat < r.length:=by have h2:x < (r.length:Int):=hx'.2;omega
   obtain⟨x0,a1,a2,a3⟩:=ha.at_ x.toNat _ (List.getElem?_eq_getElem hxl);unfold rf;dsimp only;rw [List.getElem?_eq_getElem hxl];dsimp only;rw [a3 (by rw [←ha.len];exact hxl)]
  have hday:=hkit.days;have hA2:=Hf hA (n:=r3.1.1.toNat) (by show((r3.1.1.toNat:Nat):Int)≤r3.1.1;have:=hday;dsimp only at this;omega);have e4:((r3.1.1.toNat:Nat):Int)=r3.1.1:=by have:=hday;dsimp only at this;omega
  rw [e4,y8 hw] at hA2;rw [GW hA,bs,hA2,bs,BV hw];have hpl:r3.2.1.length≤3:=by have:=hg.len;have:=hg.kit.trunks;omega
  have e5:eE k r3.2.1 r3.2.1=some true:=tp (by omega) hk1 (fun l hl=>by have:=hg.short l hl;omega);dsimp only;rw [if_pos rfl,if_pos rfl,if_pos (show((0:Nat):Int)=0 from rfl),e5,bs,iT,hp,bs,bs]
 ·rw [decide_eq_false c,nF,show bK k (r3.1.1,r3.1.2.1,r3.1.2.2) r3.2.1=some (kg r3.1 r3.2.1) from hg.checkP hk hk1 (by decide),bs,if_pos c,hp,bs,bs]
end
end Go.Proofs.YtcnpijmfgfnpiaaGreatDoor
