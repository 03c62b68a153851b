import Derived.Test.YtcnpijmfgfnpiaaGreatDoorXRB12
set_option linter.unusedSimpArgs false
set_option linter.unusedVariables false
namespace Go.Proofs.YtcnpijmfgfnpiaaGreatDoor
open K Go Go.Proofs
section
variable {k:Nat}
theorem uU{s:ByteArray}:tl (.string s) (.string s)=true:=by simp [tl]
theorem Dk{t:cG}{p:List (List Int)}{a:Nat}(h:sH t p a)(hk:50≤k)(hk1:k≤1000000)(ha:a≤8)(c:¬iu t p=0):gi k t p=some (.string .empty,iu t p):=by
 unfold gi;rw [h.checkP hk hk1 ha,bs,if_pos c]
theorem te(hk:50≤k)(hk1:k≤1000000)(hp:iN k=some true)(a0:List Int)(s:ByteArray):jM k a0 (.string s)=some true:=by
 unfold jM;rw [hQ (show ir (.string s)=true from rfl),bs,show j9 (Value.string s)=s from rfl];by_cases hlong:(40:Int) < (s.size:Int)
 ·rw [if_pos hlong,hp,bs]
 rw [if_neg hlong,show lI k a0=some (a0,0,1) from rfl,bs];obtain⟨r3,e3,hg,his,_⟩:=Hr hk hk1 (l:=(a0,0,1)) (m:=0) ⟨by simp,by simp⟩ (by decide) (a:=5) (by decide);rw [show mt k (a0,0,1) 5=some r3 from e3,bs];have hsm:jE k r3.1:=hg.small (a:=5) hk hk1 (by decide);have hT:=hg.kit.chk (by decide) (by decide);have hd:O3 k r3.1:=⟨hk,hk1,by have:=hg.kit.things;omega,hsm.worn⟩;rw [Bl (a:=5) hsm hT hk hk1 s,bs]
 have first:∀(F:Option (Except Bool Unit)),F=(if(sx r3.1 s).2=(0:Int) then((gi k r3.1 (sx r3.1 s).1).bind fun r10=>
  ((if¬(r10.2=(0:Int)) then(some true) else((dh (ir r10.1=true∧ir (.string s)=true)).bind fun _=>some (!(tl r10.1 (.string s))))):Option (Bool)).bind fun x11=>
  if x11=true then(some (.error false)) else(some (.ok ()))) else(some (.ok ())))→F=some (.ok ()):=by
  intro F hF;rw [hF];by_cases c:(sx r3.1 s).2=0
  ·rw [if_pos c];unfold sx at c⊢;by_cases c1:20 < s.size
   ·rw [if_pos c1] at c;exact absurd c (show¬(10:Int)=0 by decide)
   rw [if_neg c1] at c⊢;cases e:uG (iV s) [] [] with
   |error x=>
    rw [e] at c;have c:x=0:=c
    have:∀{bs:List Int} {p:List (List Int)} {m:List Int} {x:Int},uG bs p m= .error x→x=2:=by
     intro bs
     induction bs with
     |nil=>intro p m x h;cases h
     |cons b bs ih=>
      intro p m x h;rw [uG] at h;split at h
      ·exact ih h
      ·split at h
       ·exact ih h
       ·exact(Except.error.inj h).symm
    have:=this e;omega
   |ok o=>
    rw [e] at c;dsimp only at c⊢;by_cases c2:iu r3.1 o=0
    ·rw [if_pos c2];have hA:At k r3.1 o:=⟨hsm,hd,c2⟩
     have hw:sT o=iV s:=by
      have:=DK e;simpa [sT,dq] using this
     rw [yX hA,bs,hw,BQ];dsimp only;rw [if_neg (not_not_intro rfl),hQ ⟨rfl,rfl⟩,bs,uU];rfl
    ·rw [if_neg c2] at c;exact absurd c c2
  ·rw [if_neg c]
 rw [first _ rfl,oa,his];by_cases c:iu r3.1 r3.2.1=0
 ·have hA:At k r3.1 r3.2.1:=⟨hsm,hd,c⟩;have gp:=hA.good;have h3:=gp.g.trunks;have h5:=gp.g.things;have hlen:=gp.len;have hx:∀l∈r3.2.1,∀x∈l,0≤x∧x≤25:=fun l hl x hx=>by have:=gp.rng x (List.mem_flatten.2 ⟨l,hl,hx⟩);omega
  rw [yX hA,bs,decide_eq_true c,nT]
  have hr:sx r3.1 (fY (sT r3.2.1))=(r3.2.1,0):=by
   have hw:∀x∈sT r3.2.1,0≤x∧x < 256:=by
    have key:∀p:List (List Int),(∀l∈p,∀x∈l,0≤x∧x≤25)→∀x∈sT p,0≤x∧x < 256:=by
     intro p hp x hx;cases p with
     |nil=>cases hx
     |cons l ls=>
      rw [sT] at hx;rcases List.mem_append.1 hx with hx |hx
      ·obtain⟨y,hy,rfl⟩:=List.mem_map.1 hx;have:=hp l (by simp) y hy;omega
      ·obtain⟨m,hm,hx⟩:=List.mem_flatMap.1 hx;rcases List.mem_cons.1 hx with rfl |hx
       ·decide
       ·obtain⟨y,hy,rfl⟩:=List.mem_map.1 hx;have:=hp m (by simp [hm]) y hy;omega
    exact key _ hx
   have hwl:(sT r3.2.1).length≤20:=by
    have hfl:=(show ux r3.1.2.1.length r3.2.1.flatten from⟨gp.nd,gp.rng⟩).len
    have key:∀p:List (List Int),(sT p).length≤p.flatten.length+p.length:=by
     intro p;cases p with
     |nil=>simp [sT]
     |cons l ls=>
      have k2:∀ls:List (List Int),(ls.flatMap fun m=>47::dq m).length=ls.flatten.length+ls.length:=by
       intro ls
       induction ls with
       |nil=>rfl
       |cons m ls ih=>
        have e:(dq m).length=m.length:=by simp [dq]
        rw [List.flatMap_cons,List.length_append,List.length_cons,ih,List.flatten_cons,List.length_append,List.length_cons,e];omega
      rw [sT,List.length_append,k2];simp only [dq,List.length_map,List.flatten_cons,List.length_append,List.length_cons];omega
    have:=key r3.2.1;omega
   unfold sx;rw [if_neg (by rw [oy];omega),rm hw]
   have hne:∃l ls,r3.2.1=l::ls:=by
    cases h:r3.2.1 with
    |nil=>rw [h] at hlen;simp at hlen;omega
    |cons l ls=>exact⟨l,ls,rfl⟩
   obtain⟨l,ls,hll⟩:=hne;rw [hll] at hx c⊢;rw [MN hx];dsimp only;rw [if_pos c]
  rw [Bl (a:=5) hsm hT hk hk1,bs,hr];dsimp only;rw [if_pos rfl,if_pos rfl,tz (by omega) hk1 (fun l hl=>by have:=hg.short l hl;omega),bs,iT,hp,bs,bs]
 ·rw [Dk hg hk hk1 (by decide) c,bs,decide_eq_false c,nF];dsimp only;rw [if_pos c,hQ ⟨rfl,rfl⟩,bs,show tl (.string .empty) (.string ⟨#[]⟩)=true from uU (s:=.empty),iT,hp,bs,bs]
end
end Go.Proofs.YtcnpijmfgfnpiaaGreatDoor
