import Derived.Test.YtopgphikdglphaaGreatB8
import Derived.Test.YtopgphikdglphaaGreatB7
namespace Go.Proofs.YtopgphikdglphaaGreat
open K Go Go.Proofs
def wL(c:ae)(ts:List (Bool×Int))(done:List Int)(t:Nat):Bool:=decide ((t:Int)∉done) && (g8 c ts t).all fun a=>decide ((a:Int)∈done)
def vo(c:ae)(ts:List (Bool×Int))(t d:Nat):List ap:=((List.range' d (c.2.1.length - d)).filter fun(d:Nat)=>ji c (d:Int) (lJ ts (t:Int))).map fun(d:Nat)=>((t:Int),(d:Int))
def tJ(c:ae)(ts:List (Bool×Int))(done:List Int)(t:Nat):List ap:=(List.range' t (ts.length - t)).flatMap fun t=>if wL c ts done t=true then vo c ts t 0 else []
def gen(c:ae)(ts:List (Bool×Int)):Nat→List Int→List ap→List (List ap)
 |0,_,p=>[p]
 |r+1,done,p=>(tJ c ts done 0).flatMap fun s=>gen c ts r (done++[s.1]) (p++[s])
section
variable {σ:Type}
def o0(Y:σ→List ap→Option (σ×Bool)):σ→List (List ap)→Option (σ×Bool)
 |s,[]=>some (s,true)
 |s,p::l=>(Y s p).bind fun r=>if r.2=true then o0 Y r.1 l else some r
theorem qe{Y:σ→List ap→Option (σ×Bool)}:∀{l m:List (List ap)} {s:σ},o0 Y s (l++m)=(o0 Y s l).bind fun r=>if r.2=true then o0 Y r.1 m else some r
 |[],m,s=>by simp [o0]
 |p::l,m,s=>by
  simp only [List.cons_append,o0]
  cases hY:Y s p with
  |none=>simp
  |some r=>
   simp only [Option.bind_some]
   by_cases hr:r.2=true
   ·
    rw [if_pos hr,if_pos hr];exact qe
   ·
    rw [if_neg hr,if_neg hr];simp [hr]
def zl(p:List ap)(r:σ×Bool):Except (Bool×List ap×σ) (List ap×σ):=if r.2=true then .ok (p,r.1) else .error (false,p,r.1)
theorem vb{a n:Nat}(h:a < n):List.range' a (n - a)=a::List.range' (a+1) (n - (a+1)):=by
 have:n - a=(n - (a+1))+1:=by omega
 rw [this,List.range'_succ]
theorem Fh{k:Nat}(hk:50≤k){n:Int}{c:ae}{mv:List Bool}{q:cS}(h:QV n c mv q){Y:σ→List ap→Option (σ×Bool)}{self:Int→(List ap)→σ→Option (Bool×(List ap)×σ)}
 {mask:Int} {done:List Int} {p:List ap} {r t:Nat} {y6:(List ap)×Int×σ} (hp:p.length≤8) (ht:t < (aI c mv).length) (hy6:y6.2.1=(t:Int))
 (hself:∀(m':Int) (d:Nat) (s:σ),(∃r24,eK k [(t:Int)]=some r24∧m'=nF .u8 mask r24)→d < c.2.1.length→self m' (p++[((t:Int),(d:Int))]) s=(o0 Y s (gen c (aI c mv) r (done++[(t:Int)]) (p++[((t:Int),(d:Int))]))).bind fun r=>some (r.2,p++[((t:Int),(d:Int))],r.1)):
 ∀(m d aH:Nat) (s:σ),c.2.1.length - d=m→d≤c.2.1.length→m < aH→cP k mask q self y6 (lJ (aI c mv) (t:Int)) aH (p,(d:Int),s)=
  (o0 Y s ((vo c (aI c mv) t d).flatMap fun s=>gen c (aI c mv) r (done++[s.1]) (p++[s]))).bind fun r=>some (zl p r):=by
 have hdl:=h.vc.dl
 have ht4:=h.t4
 intro m
 induction m with
 |zero=>
  intro d aH s h1 h2 h3;obtain⟨aH,rfl⟩:∃f,aH=f+1:=⟨aH - 1,by omega⟩;have:d=c.2.1.length:=by omega
  subst this;rw [cP,if_neg (by rw [h.eq];simp)];simp [vo,o0,zl]
 |succ m ih=>
  intro d aH s h1 h2 h3;obtain⟨aH,rfl⟩:∃f,aH=f+1:=⟨aH - 1,by omega⟩;have hd:d < c.2.1.length:=by omega
  have hS:gZ c (aI c mv) ((t:Int),(d:Int)):=⟨by simp,by simp only;omega,by simp,by simp only;omega⟩;have hcq:(((q.1.1,q.1.2.1,q.1.2.2.1,q.1.2.2.2),q.2.1,q.2.2):cS)=q:=rfl;have hck:ck ((d:Int)+1)=some ((d:Int)+1):=bK (by omega) (by omega);have ih':=fun s=>ih (d+1) aH s (by omega) (by omega) (by omega);have ed:((d+1:Nat):Int)=(d:Int)+1:=by omega
  rw [ed] at ih';rw [cP];dsimp only;rw [if_pos (by rw [h.eq];omega),hcq,Nk hk h ⟨by omega,by omega⟩ (kV hS),bs]
  have hw:vo c (aI c mv) t d=(if ji c (d:Int) (lJ (aI c mv) (t:Int))=true then [((t:Int),(d:Int))] else [])++vo c (aI c mv) t (d+1):=by
   unfold vo;rw [vb hd,List.filter_cons];split <;> simp
  rw [hw];by_cases hc:ji c (d:Int) (lJ (aI c mv) (t:Int))=true
  ·rw [if_neg (by simp [hc]),if_pos hc];simp only [hy6];obtain⟨r24,e24,m24,d24⟩:=ij (k:=k) hk (l:=[(t:Int)]) (by simp) (fun x hx=>by simp only [List.mem_singleton] at hx;subst hx;omega);rw [cO (bH (by simp only [List.length_cons,List.length_nil];omega)),bs,e24,bs,hself _ d s ⟨r24,e24,rfl⟩ hd];simp only [List.cons_append,List.nil_append,List.flatMap_cons];rw [qe];cases hR:o0 Y s (gen c (aI c mv) r (done++[(t:Int)]) (p++[((t:Int),(d:Int))])) with
   |none=>simp [K.bE]
   |some x=>
    obtain⟨s',b⟩:=x;simp only [bs];have hl:((p++[((t:Int),(d:Int))]).length:Int) - 1=(p.length:Int):=by simp
    rw [hl,bK (by omega) (by omega),bs,cO ⟨by omega,by simp;omega⟩,bs];have htk:List.take (Int.toNat (p.length:Int)) (p++[((t:Int),(d:Int))])=p:=by simp
    rw [htk];cases b with
    |false=>simp only [Bool.false_eq_true,not_false_eq_true,if_true,if_false,pH,bs,zl]
    |true=>
     simp only [not_true_eq_false,if_false,if_true,lU,hck,bs];exact ih' s'
  ·rw [if_pos (by simpa using hc),if_neg hc];simp only [lU,hck,bs,List.nil_append];exact ih' s
theorem Fj{k:Nat}(hk:50≤k){n:Int}{c:ae}{mv:List Bool}{q:cS}(h:QV n c mv q){Y:σ→List ap→Option (σ×Bool)}{self:Int→(List ap)→σ→Option (Bool×(List ap)×σ)}
 {mask:Int} {done:List Int} {p:List ap} {r:Nat} (hp:p.length≤8) (hM:jr mask) (hH:∀a:Nat,cu mask a↔(a:Int)∈done)
 (hself:∀(m':Int) (t d:Nat) (s:σ),(∃r24,eK k [(t:Int)]=some r24∧m'=nF .u8 mask r24)→t < (aI c mv).length→d < c.2.1.length→self m' (p++[((t:Int),(d:Int))]) s=(o0 Y s (gen c (aI c mv) r (done++[(t:Int)]) (p++[((t:Int),(d:Int))]))).bind fun r=>some (r.2,p++[((t:Int),(d:Int))],r.1)):
 ∀(m t aH:Nat) (s:σ),(aI c mv).length - t=m→t≤(aI c mv).length→m < aH→cQ k mask q self aH (p,(t:Int),s)=
  (o0 Y s ((tJ c (aI c mv) done t).flatMap fun s=>gen c (aI c mv) r (done++[s.1]) (p++[s]))).bind fun r=>some (zl p r):=by
 have hdl:=h.vc.dl
 have ht4:=h.t4
 intro m
 induction m with
 |zero=>
  intro t aH s h1 h2 h3;obtain⟨aH,rfl⟩:∃f,aH=f+1:=⟨aH - 1,by omega⟩;have:t=(aI c mv).length:=by omega
  subst this;rw [cQ,if_neg (by rw [h.tasks];simp)];simp [tJ,o0,zl]
 |succ m ih=>
  intro t aH s h1 h2 h3;obtain⟨aH,rfl⟩:∃f,aH=f+1:=⟨aH - 1,by omega⟩;have ht:t < (aI c mv).length:=by omega
  have hck:ck ((t:Int)+1)=some ((t:Int)+1):=bK (by omega) (by omega);have ih':=fun s=>ih (t+1) aH s (by omega) (by omega) (by omega);have ed:((t+1:Nat):Int)=(t:Int)+1:=by omega
  rw [ed] at ih';rw [cQ];dsimp only;have hgt:(aI c mv)[t]=lJ (aI c mv) (t:Int):=by simp [lJ,List.getElem?_eq_getElem ht]
  rw [h.tasks,if_pos (by omega),aY ht,bs,wR hM (by omega),bs,hgt];obtain⟨mk,em,hmk,hmb,_⟩:=h.mask (b:=t) (by omega);rw [cO (by omega),bs,qw (by omega) (by simpa using em),bs]
  have hcond:(if decide (cu mask t)=true then(some (true,s)) else(some (!decide ((pP .u8 mk mask)=(0:Int)),s)))=some (!wL c (aI c mv) done t,s):=by
   unfold wL;by_cases h1:(t:Int)∈done
   ·rw [decide_eq_true ((hH t).2 h1)];simp [h1]
   ·rw [decide_eq_false (fun h=>h1 ((hH t).1 h))]
    have e:decide ((pP .u8 mk mask)=(0:Int))=(g8 c (aI c mv) t).all fun a=>decide ((a:Int)∈done):=by
     rw [Bool.eq_iff_iff,decide_eq_true_eq,H5 hmk hM,List.all_eq_true];constructor
     ·intro hh a ha;exact decide_eq_true ((hH a).1 (hh a ((hmb a).2 (qm.1 ha))))
     ·intro hh a ha;exact(hH a).2 (of_decide_eq_true (hh a (qm.2 ((hmb a).1 ha))))
    rw [e];simp [h1]
  rw [hcond,bs]
  have hw:tJ c (aI c mv) done t=(if wL c (aI c mv) done t=true then vo c (aI c mv) t 0 else [])++tJ c (aI c mv) done (t+1):=by
   unfold tJ;rw [vb ht,List.flatMap_cons]
  rw [hw,List.flatMap_append,qe];by_cases hc:wL c (aI c mv) done t=true
  ·have:=Fh hk h (Y:=Y) (self:=self) (mask:=mask) (done:=done) (p:=p) (r:=r) (t:=t) (y6:=(p,(t:Int),s)) hp ht rfl (fun m' d s hm hd=>hself m' t d s hm ht hd) c.2.1.length 0 k s (by omega) (by omega) (by omega);simp only [hc,Bool.not_true,Bool.false_eq_true,if_false,if_true];rw [show((0:Nat):Int)=0 from rfl] at this;rw [this];cases hR:o0 Y s ((vo c (aI c mv) t 0).flatMap fun s=>gen c (aI c mv) r (done++[s.1]) (p++[s])) with
   |none=>simp [K.bE]
   |some x=>
    obtain⟨s',b⟩:=x;cases b with
    |false=>simp only [bs,zl,Bool.false_eq_true,if_false,pH]
    |true=>
     simp only [bs,zl,if_true,lU,hck];exact ih' s'
  ·simp only [hc];have hc':wL c (aI c mv) done t=false:=by simpa using hc
   simp only [Bool.not_false,if_true,lU,hck,bs];exact ih' s
theorem G9{k:Nat}(hk:50≤k){n:Int}{c:ae}{mv:List Bool}{q:cS}(h:QV n c mv q){Y:σ→List ap→Option (σ×Bool)}:∀(r aH:Nat) {mask:Int} {done:List Int} {p:List ap} {s:σ},p.length+r=(aI c mv).length→r < aH→jr mask→(∀a:Nat,cu mask a↔(a:Int)∈done)→
 cm k Y q aH mask p s=(o0 Y s (gen c (aI c mv) r done p)).bind fun r=>some (r.2,p,r.1):=by
 have ht4:=h.t4
 intro r
 induction r with
 |zero=>
  intro aH mask done p s h1 h2 hM hH;obtain⟨aH,rfl⟩:∃f,aH=f+1:=⟨aH - 1,by omega⟩;rw [cm,if_pos (by rw [h.tasks];omega)];unfold kX;rw [cO (bH (by omega)),bs,bs];simp only [gen,o0];cases Y s p with
  |none=>simp
  |some x=>
   obtain⟨x1,x2⟩:=x;cases x2 <;> simp
 |succ r ih=>
  intro aH mask done p s h1 h2 hM hH;obtain⟨aH,rfl⟩:∃f,aH=f+1:=⟨aH - 1,by omega⟩;rw [cm,if_neg (by rw [h.tasks];omega)]
  have:=Fj hk h (Y:=Y) (self:=cm k Y q aH) (mask:=mask) (done:=done) (p:=p) (r:=r) (by omega) hM hH (fun m' t d s hm ht hd=>by
   obtain⟨r24,e24,rfl⟩:=hm;obtain⟨r24',e24',m24,d24⟩:=ij (k:=k) hk (l:=[(t:Int)]) (by simp) (fun x hx=>by simp only [List.mem_singleton] at hx;subst hx;omega);have:r24'=r24:=Option.some.inj (e24'.symm.trans e24);subst this;obtain⟨m5,d5⟩:=po hM m24;exact ih aH (by simp;omega) (by omega) m5 (fun a=>by rw [d5,hH,d24,List.mem_append])) (aI c mv).length 0 k s (by omega) (by omega) (by omega)
  rw [show((0:Nat):Int)=0 from rfl] at this;rw [this];simp only [gen];cases hR:o0 Y s ((tJ c (aI c mv) done 0).flatMap fun s=>gen c (aI c mv) r (done++[s.1]) (p++[s])) with
  |none=>simp [K.bE]
  |some x=>
   obtain⟨s',b⟩:=x;cases b with
   |false=>simp only [bs,zl,Bool.false_eq_true,if_false,pH]
   |true=>simp only [bs,zl,if_true,lU]
end
def jy(c:ae)(ts:List (Bool×Int)):List (List ap):=gen c ts ts.length [] []
theorem wJ{c:ae}{ts:List (Bool×Int)}{t:Nat}{s:ap}:s∈vo c ts t 0↔s.1=(t:Int)∧0≤s.2∧s.2 < c.2.1.length∧ji c s.2 (lJ ts s.1)=true:=by
 unfold vo;simp only [List.mem_map,List.mem_filter,List.mem_range'_1];constructor
 ·rintro⟨d,⟨h1,h2⟩,rfl⟩;exact⟨rfl,by simp,by simp only;omega,h2⟩
 ·rintro⟨h1,h2,h3,h4⟩;obtain⟨a,b⟩:=s;simp only at h1 h2 h3 h4;subst h1;have e:((b.toNat:Nat):Int)=b:=by omega
  exact⟨b.toNat,⟨by omega,by rw [e];exact h4⟩,by rw [e]⟩
theorem qo{c:ae}{ts:List (Bool×Int)}{done:List Int}{t:Nat}:wL c ts done t=true↔(t:Int)∉done∧∀a∈g8 c ts t,(a:Int)∈done:=by
 unfold wL;simp only [Bool.and_eq_true,decide_eq_true_eq,List.all_eq_true]
theorem wK{c:ae}{ts:List (Bool×Int)}{done:List Int}{s:ap}:s∈tJ c ts done 0↔dC c ts done s=0:=by
 unfold tJ dC;simp only [List.mem_flatMap,List.mem_range'_1];constructor
 ·rintro⟨t,h1,h2⟩;by_cases hm:wL c ts done t=true
  ·rw [if_pos hm] at h2;obtain⟨e1,e2,e3,e4⟩:=wJ.1 h2;obtain⟨m1,m2⟩:=qo.1 hm;rw [if_neg (by omega),if_neg (by rw [e1];exact m1),if_neg (by omega),if_neg (by show¬ji c s.2 (lJ ts s.1)=false;rw [e4];decide),if_neg (by rw [e1];simpa using m2)]
  ·rw [if_neg hm] at h2;cases h2
 ·intro h;by_cases a1:0≤s.1∧s.1 < ts.length
  ·rw [if_neg (by simpa using a1)] at h;by_cases a2:s.1∈done
   ·rw [if_pos a2] at h;cases h
   ·rw [if_neg a2] at h;by_cases a3:0≤s.2∧s.2 < c.2.1.length
    ·rw [if_neg (by simpa using a3)] at h;by_cases a4:ji c s.2 (ts[s.1.toNat]?.getD (false,0))=false
     ·rw [if_pos a4] at h;cases h
     ·rw [if_neg a4] at h;by_cases a5:∀a∈g8 c ts s.1.toNat,(a:Int)∈done
      ·have e1:((s.1.toNat:Nat):Int)=s.1:=by omega
       refine⟨s.1.toNat,by omega,?_⟩;rw [if_pos (qo.2 ⟨by rw [e1];exact a2,a5⟩)];exact wJ.2 ⟨e1.symm,a3.1,a3.2,by simpa [lJ] using a4⟩
      ·rw [if_pos a5] at h;cases h
    ·rw [if_pos (by simpa using a3)] at h;cases h
  ·rw [if_pos (by simpa using a1)] at h;cases h
theorem zF{c:ae}{ts:List (Bool×Int)}:∀{r:Nat} {done:List Int} {p x:List ap},x∈gen c ts r done p↔∃y,x=p++y∧y.length=r∧qD c ts done y=0
 |0,done,p,x=>by
  simp only [gen,List.mem_singleton]
  constructor
  ·
   intro h;exact⟨[],by simp [h],rfl,rfl⟩
  ·
   rintro⟨y,rfl,h,_⟩
   rw [List.length_eq_zero_iff.1 h,List.append_nil]
 |r+1,done,p,x=>by
  simp only [gen,List.mem_flatMap]
  constructor
  ·
   rintro⟨s,hs,hx⟩
   obtain⟨y,rfl,h1,h2⟩:=zF.1 hx
   refine⟨s::y,by simp,by simp [h1],?_⟩
   rw [qD,if_neg (by simp [wK.1 hs]),h2]
  ·
   rintro⟨y,rfl,h1,h2⟩
   cases y with
   |nil=>simp at h1
   |cons s y=>
    rw [qD] at h2
    by_cases h0:dC c ts done s=0
    ·
     rw [if_neg (by simp [h0])] at h2
     exact⟨s,wK.2 h0,zF.2 ⟨y,by simp,by simpa using h1,h2⟩⟩
    ·
     rw [if_pos h0] at h2;exact absurd h2 h0
theorem pm{c:ae}{ts:List (Bool×Int)}{p:List ap}:p∈jy c ts↔tL c ts p=0:=by
 unfold jy;rw [zF];constructor
 ·rintro⟨y,rfl,h1,h2⟩;unfold tL;rw [if_neg (by omega),if_neg (by omega),h2]
 ·intro h;obtain⟨h1,h2⟩:=qC h;exact⟨p,rfl,h1,h2⟩
def Kx(E:Nat→Int):Int:=kD (kD (kD (E 0) (E 1)) (E 2)) (E 3)
def gX(c:ae)(ts:List (Bool×Int))(p:List ap):Int:=Kx (sQ c ts E0 (F0 c) p)
theorem Bf{k:Nat}(hk:50≤k){p:List ap}(hp:p.length≤4):mY k p=some (oc p):=by
 have key:dK k k ([((0:Int),(0:Int)),((0:Int),(0:Int)),((0:Int),(0:Int)),((0:Int),(0:Int))],(0:Int))=some [(-1, -1),(-1, -1),(-1, -1),(-1, -1)]:=by
  obtain⟨k',e⟩:∃k',k=k'+5:=⟨k - 5,by omega⟩;rw [show dK k k=dK k (k'+5) by rw [←e]];rw [dK,if_pos (by decide),cO (by decide),bs,bK (by decide) (by decide),bs];rw [dK,if_pos (by decide),cO (by decide),bs,bK (by decide) (by decide),bs];rw [dK,if_pos (by decide),cO (by decide),bs,bK (by decide) (by decide),bs];rw [dK,if_pos (by decide),cO (by decide),bs,bK (by decide) (by decide),bs];rw [dK,if_neg (by decide)];rfl
 unfold mY;rw [key,bs];unfold oc;congr 1;match p,hp with
 |[],_=>rfl
 |[a],_=>rfl
 |[a,b],_=>rfl
 |[a,b,d],_=>rfl
 |[a,b,d,e],_=>rfl
theorem length_eq{k:Nat}(hk:50≤k){n:Int}{c:ae}{mv:List Bool}{q:cS}(h:QV n c mv q){p:List ap}(hp:tL c (aI c mv) p=0):cJ k q p=some (gX c (aI c mv) p):=by
 obtain⟨h1,h2⟩:=qC hp;have h3:=(nQ h2).1;have ht:=h.t4;have hdl:=h.vc.dl;have hs:∀s∈p,gZ c (aI c mv) s:=fun s hs=>(h3 s hs).1;obtain⟨el,e1,hE⟩:=F6 hk h (by omega) hs;unfold cJ
 have hg:jA q p:=⟨by rw [h.tasks];exact h1,by omega,fun s hs'=>by
  obtain⟨a,b,d,e⟩:=hs s hs';exact⟨a,by omega,d,by omega⟩⟩
 rw [cO hg,bs,Bf hk (by omega),bs,cO rfl,bs,Bf hk (by simp),bs,cO rfl,bs];by_cases h0:p=[]
 ·subst h0;rw [if_pos rfl];rfl
 ·rw [if_neg h0,e1,bs];obtain⟨hl,hv⟩:=hE;have v0:=hv 0 (by omega);have v1:=hv 1 (by omega);have v2:=hv 2 (by omega);have v3:=hv 3 (by omega);unfold gX;generalize sQ c (aI c mv) E0 (F0 c) p=E at *;match el,hl with
  |[a,b,d,e],_=>
   simp only [List.getElem?_cons_zero,List.getElem?_cons_succ,Option.some.injEq] at v0 v1 v2 v3;subst v0 v1 v2 v3
   have key:ma k [E 0,E 1,E 2,E 3]=some (Kx E):=by
    unfold ma;rw [if_neg (by simp)];obtain⟨k',e⟩:∃k',k=k'+5:=⟨k - 5,by omega⟩;rw [show dD k [E 0,E 1,E 2,E 3] k=dD k [E 0,E 1,E 2,E 3] (k'+5) by rw [←e]];rw [show aL [E 0,E 1,E 2,E 3] 0=some (E 0) from rfl,bs];rw [dD,if_pos (by simp),show aL [E 0,E 1,E 2,E 3] 1=some (E 1) from rfl,bs,bK (by simp) (by simp),bs];rw [dD,if_pos (by simp)];simp only [show(1:Int)+1=2 from rfl];rw [show aL [E 0,E 1,E 2,E 3] 2=some (E 2) from rfl,bs,bK (by simp) (by simp),bs];rw [dD,if_pos (by simp)];simp only [show(2:Int)+1=3 from rfl];rw [show aL [E 0,E 1,E 2,E 3] 3=some (E 3) from rfl,bs,bK (by simp) (by simp),bs];rw [dD,if_neg (by simp),bs];rfl
   rw [key,bs]
def kf(f:List ap→Int):Bool×Int×List ap→List (List ap)→Bool×Int×List ap
 |b,[]=>b
 |b,p::l=>kf f (if b.1=false∨f p < b.2.1 then(true,f p,p) else b) l
theorem oD{k:Nat}(hk:50≤k){n:Int}{c:ae}{mv:List Bool}{q:cS}(h:QV n c mv q):
 f6 k q=some ((kf (gX c (aI c mv)) (false,0,[]) (jy c (aI c mv))).2.2,(kf (gX c (aI c mv)) (false,0,[]) (jy c (aI c mv))).2.1,(kf (gX c (aI c mv)) (false,0,[]) (jy c (aI c mv))).1):=by
 have ht:=h.t4
 have hcq:(((q.1.1,q.1.2.1,q.1.2.2.1,q.1.2.2.2),q.2.1,q.2.2):cS)=q:=rfl
 unfold f6 jl
 simp only [hcq]
 rw [G9 hk h (aI c mv).length k (done:=[]) (by simp) (by omega) ⟨by decide,by decide⟩ (fun a=>by simp [cu])]
 have key:∀(l:List (List ap)) (b:Bool×Int×List ap),(∀p∈l,tL c (aI c mv) p=0)→o0 (yo (fun(y5:Bool×Int×(List ap)) (p7:(List ap))=>
  (cJ k q p7).bind fun r9=>
  ((if¬(y5.1=true) then(some true) else(some (decide (r9 < y5.2.1)))):Option (Bool)).bind fun x10=>
  if x10=true then(some ((true,r9,p7),true)) else(some ((y5.1,y5.2.1,y5.2.2),true)))) (b,false) l=some ((kf (gX c (aI c mv)) b l,false),true):=by
  intro l
  induction l with
  |nil=>intro b _;rfl
  |cons p l ih=>
   intro b hp;have hl:=length_eq hk h (hp p (by simp));have ih':=fun b=>ih b (fun x hx=>hp x (by simp [hx]));rw [o0,yo];simp only [hl,bs];obtain⟨b1,b2,b3⟩:=b;cases b1 with
   |false=>
    simp only [Bool.false_eq_true,not_false_eq_true,if_true,bs,Bool.not_true];rw [ih',kf];simp
   |true=>
    by_cases hlt:gX c (aI c mv) p < b2
    ·simp only [not_true_eq_false,if_false,hlt,decide_true,if_true,bs,Bool.not_true];rw [ih',kf];simp [hlt]
    ·simp only [not_true_eq_false,if_false,hlt,decide_false,Bool.false_eq_true,bs,if_true,Bool.not_true];rw [ih',kf];simp [hlt]
 have:=key (jy c (aI c mv)) (false,0,[]) (fun p hp=>pm.1 hp)
 unfold jy at this⊢
 rw [this]
 simp only [bs,Bool.false_eq_true,if_false]
def bB(c:ae)(ts:List (Bool×Int)):Bool×Int×List ap:=kf (gX c ts) (false,0,[]) (jy c ts)
theorem uC{f:List ap→Int}:∀{l:List (List ap)} {b:Bool×Int×List ap},b.1=true→(kf f b l).1=true∧(kf f b l).2.1≤b.2.1∧(∀p∈l,(kf f b l).2.1≤f p)∧((kf f b l)=b∨∃p∈l,kf f b l=(true,f p,p))
 |[],b,h=>⟨h,Int.le_refl _,by simp,.inl rfl⟩
 |p::l,b,h=>by
  rw [kf]
  by_cases hp:f p < b.2.1
  ·
   rw [if_pos (.inr hp)]
   obtain⟨h1,h2,h3,h4⟩:=uC (f:=f) (l:=l) (b:=(true,f p,p)) rfl
   simp only at h2
   refine⟨h1,by omega,fun x hx=>?_,?_⟩
   ·
    rcases List.mem_cons.1 hx with rfl |hx
    ·
     exact h2
    ·
     exact h3 x hx
   ·
    rcases h4 with h4 |⟨x,hx,h4⟩
    ·
     exact .inr ⟨p,by simp,h4⟩
    ·
     exact .inr ⟨x,by simp [hx],h4⟩
  ·
   rw [if_neg (by rw [h];simp [hp])]
   obtain⟨h1,h2,h3,h4⟩:=uC (f:=f) (l:=l) h
   refine⟨h1,h2,fun x hx=>?_,?_⟩
   ·
    rcases List.mem_cons.1 hx with rfl |hx
    ·
     omega
    ·
     exact h3 x hx
   ·
    rcases h4 with h4 |⟨x,hx,h4⟩
    ·
     exact .inl h4
    ·
     exact .inr ⟨x,by simp [hx],h4⟩
theorem lS{c:ae}{ts:List (Bool×Int)}:((bB c ts).1=false∧(bB c ts).2=(0,[])∧∀p,tL c ts p≠0)∨
 ((bB c ts).1=true∧tL c ts (bB c ts).2.2=0∧(bB c ts).2.1=gX c ts (bB c ts).2.2∧∀p,tL c ts p=0→(bB c ts).2.1≤gX c ts p):=by
 unfold bB
 cases hl:jy c ts with
 |nil=>
  refine .inl ⟨rfl,rfl,fun p hp=>?_⟩;have:=pm.2 hp;rw [hl] at this;simp at this
 |cons p l=>
  rw [kf,if_pos (.inl rfl)];obtain⟨h1,h2,h3,h4⟩:=uC (f:=gX c ts) (l:=l) (b:=(true,gX c ts p,p)) rfl;have hm:∀x,tL c ts x=0↔x=p∨x∈l:=fun x=>by rw [←pm,hl];simp
  refine .inr ⟨h1,?_,?_,fun x hx=>?_⟩
  ·rcases h4 with h4 |⟨x,hx,h4⟩
   ·rw [h4];exact(hm _).2 (.inl rfl)
   ·rw [h4];exact(hm _).2 (.inr hx)
  ·rcases h4 with h4 |⟨x,hx,h4⟩
   ·rw [h4]
   ·rw [h4]
  ·rcases(hm x).1 hx with rfl |hx
   ·exact h2
   ·exact h3 x hx
theorem FM{k:Nat}(hk:50≤k){n:Int}{c:ae}{mv:List Bool}{q:cS}{a0:cS}{ds:List ax}(hc:(a0.1.1,ds,a0.1.2.2.1,a0.1.2.2.2)=c)(h:QV n c mv q)(hb:bM k c=some (some q,0)):
 iy k a0 ds=some ((bB c (aI c mv)).2.1,(bB c (aI c mv)).1):=by
 have hcq:(((q.1.1,q.1.2.1,q.1.2.2.1,q.1.2.2.2),q.2.1,q.2.2):cS)=q:=rfl
 unfold iy
 rw [hc,hb,bs,rq,if_neg (by simp),hcq,oD hk h,bs]
 rfl
theorem Dy{k:Nat}(hk:50≤k){n:Int}{c:ae}{mv:List Bool}{q:cS}{a0:fp}{ds:List ax}(hc:(a0.1.1,ds,a0.1.2.2)=c)(h:QV n c mv q)(hb:bM k c=some (some q,0)):
 ff k a0 ds=some ((bB c (aI c mv)).2.1,(bB c (aI c mv)).1):=by
 have hcq:(((q.1.1,q.1.2.1,q.1.2.2.1,q.1.2.2.2),q.2.1,q.2.2):cS)=q:=rfl
 unfold ff
 rw [hc,hb,bs,rq,if_neg (by simp),hcq,oD hk h,bs]
 rfl
abbrev wD(c:ae)(ds:List ax):ae:=(c.1,ds,c.2.2.1,c.2.2.2)
theorem tH{c:ae}{ds:List ax}{mv:List Bool}(h:xH c mv):xH (wD c ds) mv:=⟨h.len,h.sound,h.shut⟩
def NH(n:Int)(c:ae):Prop:=∀ds:List ax,(∀x∈ds,kl n x)→1≤ds.length∧ds.length≤3→VC n (wD c ds)
theorem NH.go{n:Int}{c:ae}(hW:NH n c){k:Nat}(hk:50≤k){mv:List Bool}{q:cS}{ds:List ax}(hq:QV n c mv q)(hd:∀x∈ds,kl n x)(hl:1≤ds.length∧ds.length≤3):
 ∃q',bM k (wD c ds)=some (some q',0)∧QV n (wD c ds) mv q':=
 (qK hk (hW ds hd hl) (tH hq.fix)).2 hq.t4
theorem rp{c:ae}{ds:List ax}{x:ax}{d:Nat}(hd:d < ds.length){i:Int}(hi:0≤i):oK (wD c (ds.set d x)) i=if i=(d:Int) then x else oK (wD c ds) i:=by
 unfold oK;simp only [List.getElem?_set];by_cases h:d=i.toNat
 ·rw [if_pos h,if_pos hd,if_pos (by omega)];rfl
 ·rw [if_neg h,if_neg (by omega)]
theorem yS{c:ae}{ds:List ax}{x:ax}{v:Int}{d:Nat}(hx:ds[d]? =some x){i:Int}(hi:0≤i){w:Bool×Int}:ji (wD c (ds.set d (x.1,x.2.1,v))) i w=ji (wD c ds) i w:=by
 have hd:d < ds.length:=(List.getElem?_eq_some_iff.1 hx).1;have e:=rp (c:=c) (ds:=ds) (x:=(x.1,x.2.1,v)) hd hi
 have:(oK (wD c (ds.set d (x.1,x.2.1,v))) i).1=(oK (wD c ds) i).1∧(oK (wD c (ds.set d (x.1,x.2.1,v))) i).2.1=(oK (wD c ds) i).2.1:=by
  rw [e];by_cases h:i=(d:Int)
  ·rw [if_pos h];subst h;unfold oK;simp [hx]
  ·rw [if_neg h];exact⟨rfl,rfl⟩
 unfold ji;rw [this.1,this.2];rfl
theorem xP{c c':ae}{ts:List (Bool×Int)}{done:List Int}{s:ap}(h1:c'.1=c.1)(h2:c'.2.1.length=c.2.1.length)(h3:0≤s.2→s.2 < c.2.1.length→ji c' s.2 (lJ ts s.1)=ji c s.2 (lJ ts s.1)):dC c' ts done s=dC c ts done s:=by
 have hb:∀b,g8 c' ts b=g8 c ts b:=fun b=>by
  unfold g8 Ak vA Au;rw [h1]
 unfold dC;rw [hb,h2];by_cases a1:0≤s.1∧s.1 < ts.length
 ·have n1:¬¬(0≤s.1∧s.1 < ts.length):=fun h=>h a1;simp only [n1,if_false];by_cases a2:s.1∈done
  ·simp only [a2,if_true]
  ·simp only [a2,if_false];by_cases a3:0≤s.2∧s.2 < c.2.1.length
   ·have n3:¬¬(0≤s.2∧s.2 < c.2.1.length):=fun h=>h a3;have:=h3 a3.1 a3.2;unfold lJ at this;simp only [n3,if_false,this]
   ·simp only [a3,not_false_eq_true,if_true]
 ·simp only [a1,not_false_eq_true,if_true]
theorem yN{c c':ae}{ts:List (Bool×Int)}(h1:c'.1=c.1)(h2:c'.2.1.length=c.2.1.length)(h3:∀(i:Int) w,0≤i→i < c.2.1.length→w∈ts→ji c' i w=ji c i w){p:List ap}:tL c' ts p=tL c ts p:=by
 have key:∀(p:List ap) (done:List Int),qD c' ts done p=qD c ts done p:=by
  intro p
  induction p with
  |nil=>intro done;rfl
  |cons s p ih=>
   intro done
   have e:dC c' ts done s=dC c ts done s:=by
    by_cases hs:0≤s.1∧s.1 < ts.length
    ·refine xP h1 h2 fun a b=>h3 _ _ a b ?_;have hl:s.1.toNat < ts.length:=by omega
     rw [lJ,List.getElem?_eq_getElem hl];exact List.getElem_mem hl
    ·unfold dC;simp only [hs,not_false_eq_true,if_true]
   rw [qD,qD,e,ih]
 unfold tL;rw [key]
theorem uO{c:ae}{ts:List (Bool×Int)}:(bB c ts).1=true↔∃p,tL c ts p=0:=by
 rcases lS (c:=c) (ts:=ts) with⟨h,_,h'⟩ |⟨h,h',_⟩
 ·rw [h];exact⟨fun h=>(nomatch h),fun⟨p,hp⟩=>absurd hp (h' p)⟩
 ·exact⟨fun _=>⟨_,h'⟩,fun _=>h⟩
theorem wT{n:Int}{x:ax}(h:kl n x){v:Int}(hv:0≤v∧v≤9):kl n (x.1,x.2.1,v):=⟨h.can,h.side,hv⟩
theorem tB{n:Int}{ds:List ax}{d:Nat}{x:ax}(h:∀x∈ds,kl n x)(hx:kl n x):∀y∈ds.set d x,kl n y:=fun y hy=>by
 rcases List.mem_or_eq_of_mem_set hy with h' |h'
 ·
  exact h y h'
 ·
  subst h';exact hx
theorem EC{n:Int}{c:ae}{mv:List Bool}(hc:VC n c):∀{p:List ap} {E F:Nat→Int} {b:Int},(∀s∈p,gZ c (aI c mv) s)→An E b→An F b→An (sQ c (aI c mv) E F p) (b+4 * p.length)
 |[],E,F,b,_,hE,_=>by rw [sQ];exact hE.mono (by simp)
 |s::p,E,F,b,hs,hE,hF=>by
  have hb:=rD hc (kV (hs s (by simp)))
  have hat:=tW (c:=c) (ts:=aI c mv) (s:=s) hE hF
  have hv:0≤gI c (aI c mv) E F s∧gI c (aI c mv) E F s≤b+4:=by unfold gI;omega
  have:=EC hc (p:=p) (E:=upd E s.1.toNat (gI c (aI c mv) E F s)) (F:=upd F s.2.toNat (gI c (aI c mv) E F s)) (b:=b+4) (fun x hx=>hs x (List.mem_cons_of_mem _ hx)) ((hE.mono (b':=b+4) (by omega)).upd hv) ((hF.mono (b':=b+4) (by omega)).upd hv)
  rw [sQ]
  exact this.mono (by simp only [List.length_cons];omega)
theorem K8{c c':ae}{ts:List (Bool×Int)}(hc:c'.1=c.1){E E' F F':Nat→Int}{δ:Int}(hE:∀i,E' i≤E i+δ)(hF:∀i,F' i≤F i+δ){s:ap}:sK c' ts E' F' s≤sK c ts E F s+δ:=by
 have hb:g8 c' ts s.1.toNat=g8 c ts s.1.toNat:=by
  unfold g8 Ak vA Au;rw [hc]
 unfold sK;rw [hb,nk];obtain⟨h1,h2⟩:=su (E:=E) (l:=g8 c ts s.1.toNat) (m:=F s.2.toNat);exact⟨by have:=hF s.2.toNat;omega,fun a ha=>by have:=hE a;have:=h2 a ha;omega⟩
theorem IJ{c c':ae}{ts:List (Bool×Int)}(hc:c'.1=c.1){δ:Int}:∀{p:List ap} {E E' F F':Nat→Int},(∀i,E' i≤E i+δ)→(∀i,F' i≤F i+δ)→∀i,sQ c' ts E' F' p i≤sQ c ts E F p i+δ
 |[],_,_,_,_,hE,_=>hE
 |s::p,E,E',F,F',hE,hF=>by
  have hb:jF c' (lJ ts s.1)=jF c (lJ ts s.1):=by unfold jF Au;rw [hc]
  have he:gI c' ts E' F' s≤gI c ts E F s+δ:=by
   unfold gI;rw [hb];have:=K8 (ts:=ts) hc hE hF (s:=s);omega
  rw [sQ,sQ];refine IJ hc (fun i=>?_) (fun i=>?_)
  ·unfold upd;split
   ·exact he
   ·exact hE i
  ·unfold upd;split
   ·exact he
   ·exact hF i
theorem KB{c c':ae}{ts:List (Bool×Int)}(hc:c'.1=c.1){δ:Int}(h0:0≤δ)(hF:∀i,F0 c' i≤F0 c i+δ){p:List ap}:gX c' ts p≤gX c ts p+δ:=by
 have h:=IJ (ts:=ts) (p:=p) hc (E:=E0) (E':=E0) (δ:=δ) (fun i=>by unfold E0;omega) hF;unfold gX;generalize sQ c' ts E0 (F0 c') p=E' at *;generalize sQ c ts E0 (F0 c) p=E at *;have a0:=h 0;have a1:=h 1;have a2:=h 2;have a3:=h 3;unfold Kx;simp only [tz];have b:∀x,x≤kD (kD (kD (E 0) (E 1)) (E 2)) (E 3)↔((x≤E 0∨x≤E 1)∨x≤E 2)∨x≤E 3:=fun x=>by simp only [KD]
 have b0:=(b (E 0)).2 (.inl (.inl (.inl (Int.le_refl _))));have b1:=(b (E 1)).2 (.inl (.inl (.inr (Int.le_refl _))));have b2:=(b (E 2)).2 (.inl (.inr (Int.le_refl _)));have b3:=(b (E 3)).2 (.inr (Int.le_refl _));omega
theorem BD{c c':ae}{ts:List (Bool×Int)}(h1:c'.1=c.1)(h2:c'.2.1.length=c.2.1.length)(h3:∀(i:Int) w,0≤i→i < c.2.1.length→w∈ts→ji c i w=true→ji c' i w=true){p:List ap}(h:tL c ts p=0):tL c' ts p=0:=by
 have hb:∀b,g8 c' ts b=g8 c ts b:=fun b=>by
  unfold g8 Ak vA Au;rw [h1]
 have step:∀(s:ap) (done:List Int),dC c ts done s=0→dC c' ts done s=0:=fun s done hs=>by
  unfold dC at hs⊢;rw [hb,h2];by_cases a1:0≤s.1∧s.1 < ts.length
  ·have n1:¬¬(0≤s.1∧s.1 < ts.length):=fun h=>h a1;simp only [n1,if_false] at hs⊢;by_cases a2:s.1∈done
   ·simp only [a2,if_true] at hs;cases hs
   ·simp only [a2,if_false] at hs⊢;by_cases a3:0≤s.2∧s.2 < c.2.1.length
    ·have n3:¬¬(0≤s.2∧s.2 < c.2.1.length):=fun h=>h a3;simp only [n3,if_false] at hs⊢;by_cases a4:ji c s.2 (ts[s.1.toNat]?.getD (false,0))=false
     ·simp only [a4,if_true] at hs;cases hs
     ·have hl:s.1.toNat < ts.length:=by omega
      have a5:ji c' s.2 (ts[s.1.toNat]?.getD (false,0))=true:=h3 _ _ a3.1 a3.2 (by rw [List.getElem?_eq_getElem hl];exact List.getElem_mem hl) (by simpa using a4);rw [if_neg a4] at hs;rw [if_neg (by rw [a5];decide)];exact hs
    ·simp only [a3,not_false_eq_true,if_true] at hs;cases hs
  ·simp only [a1,not_false_eq_true,if_true] at hs;cases hs
 have key:∀(p:List ap) (done:List Int),qD c ts done p=0→qD c' ts done p=0:=by
  intro p
  induction p with
  |nil=>intro done _;rfl
  |cons s p ih=>
   intro done h;rw [qD] at h⊢;by_cases h0:dC c ts done s=0
   ·rw [if_neg (by simp [h0])] at h;rw [if_neg (by simp [step s done h0])];exact ih _ h
   ·rw [if_pos h0] at h;exact absurd h h0
 obtain⟨e1,e2⟩:=qC h;unfold tL;rw [if_neg (by omega),if_neg (by omega),key p [] e2]
theorem FN{c c':ae}{ts:List (Bool×Int)}(h1:c'.1=c.1)(h2:c'.2.1.length=c.2.1.length)(h3:∀(i:Int) w,0≤i→i < c.2.1.length→w∈ts→ji c i w=true→ji c' i w=true){δ:Int}(h0:0≤δ)(hF:∀i,F0 c' i≤F0 c i+δ)
 (h:(bB c ts).1=true):(bB c' ts).1=true∧(bB c' ts).2.1≤(bB c ts).2.1+δ:=by
 rcases lS (c:=c) (ts:=ts) with⟨hf,_⟩ |⟨_,a1,a2,_⟩
 ·
  rw [hf] at h;cases h
 ·
  have b1:=BD h1 h2 h3 a1;have hs:(bB c' ts).1=true:=uO.2 ⟨_,b1⟩;refine⟨hs,?_⟩;rcases lS (c:=c') (ts:=ts) with⟨hf,_⟩ |⟨_,_,_,b2⟩
  ·rw [hf] at hs;cases hs
  ·have:=b2 _ b1;have:=KB (ts:=ts) h1 h0 hF (p:=(bB c ts).2.2);omega
theorem gx{k:Nat}{l:List Int}(h:l.length≤1000):dq k l=some l:=by
 unfold dq;rw [cF,if_pos (bH (by simpa using h))];rfl
theorem yh{k:Nat}(hk:50≤k){c:ae}(h1:c.1.length≤20)(h2:c.2.1.length≤20)(h3:∀t∈c.1,t.1.length≤20)(h4:∀d∈c.2.1,d.1.length≤20)(h5:c.2.2.1.length≤20)(h6:c.2.2.2.length≤20):fP k c=some c:=by
 have k1:W (eC k c k ([],0)) fun r=>r=c.1:=by
  refine W.loop (f:=eC k c) (fun m y=>∃j:Nat,y.2=(j:Int)∧j≤c.1.length∧m=c.1.length - j∧y.1=c.1.take j) ?_ c.1.length k _ (by omega) ⟨0,rfl,by omega,by omega,by simp⟩;rintro aH m ⟨o,y⟩ ⟨j,hj,hle,hq,ho⟩ ih;simp only at hj ho;subst hj ho;unfold eC;dsimp only
  refine W.ite (fun hlt=>?_) (fun hge=>W.ret (by have:j=c.1.length:=by omega
                                                 subst this;rw [List.take_length]))
  have hlt':j < c.1.length:=by omega
  refine W.bindE (aY hlt') (W.bindE (gx (by have:=h3 _ (List.getElem_mem hlt');omega)) (W.chk (bH (by simp only [List.length_take,List.length_cons,List.length_nil];omega)) (W.ck (by omega) (by omega) (ih (m - 1) (_,(j:Int)+1) (by omega) ⟨j+1,?_,by omega,by omega,?_⟩))))
  ·show(j:Int)+1=((j+1:Nat):Int);omega
  ·show c.1.take j++[_]=_;rw [List.take_add_one,List.getElem?_eq_getElem hlt'];rfl
 have k2:W (eB k c k ([],0)) fun r=>r=c.2.1:=by
  refine W.loop (f:=eB k c) (fun m y=>∃j:Nat,y.2=(j:Int)∧j≤c.2.1.length∧m=c.2.1.length - j∧y.1=c.2.1.take j) ?_ c.2.1.length k _ (by omega) ⟨0,rfl,by omega,by omega,by simp⟩;rintro aH m ⟨o,y⟩ ⟨j,hj,hle,hq,ho⟩ ih;simp only at hj ho;subst hj ho;unfold eB;dsimp only
  refine W.ite (fun hlt=>?_) (fun hge=>W.ret (by have:j=c.2.1.length:=by omega
                                                 subst this;rw [List.take_length]))
  have hlt':j < c.2.1.length:=by omega
  refine W.bindE (aY hlt') (W.bindE (gx (by have:=h4 _ (List.getElem_mem hlt');omega)) (W.chk (bH (by simp only [List.length_take,List.length_cons,List.length_nil];omega)) (W.ck (by omega) (by omega) (ih (m - 1) (_,(j:Int)+1) (by omega) ⟨j+1,?_,by omega,by omega,?_⟩))))
  ·show(j:Int)+1=((j+1:Nat):Int);omega
  ·show c.2.1.take j++[_]=_;rw [List.take_add_one,List.getElem?_eq_getElem hlt'];rfl
 obtain⟨x1,e1,rfl⟩:=k1;obtain⟨x2,e2,rfl⟩:=k2;unfold fP;rw [gx (by omega),gx (by omega),e1,e2];rfl
theorem yV{c c':ae}{ts:List (Bool×Int)}(hc:c'.1=c.1){d:Nat}:∀{p:List ap} {E F F':Nat→Int},(∀s∈p,s.2.toNat≠d)→(∀i,i≠d→F' i=F i)→sQ c' ts E F' p=sQ c ts E F p
 |[],_,_,_,_,_=>rfl
 |s::p,E,F,F',hs,hF=>by
  have hb:jF c' (lJ ts s.1)=jF c (lJ ts s.1):=by unfold jF Au;rw [hc]
  have hbf:g8 c' ts s.1.toNat=g8 c ts s.1.toNat:=by
   unfold g8 Ak vA Au;rw [hc]
  have he:gI c' ts E F' s=gI c ts E F s:=by
   unfold gI sK;rw [hb,hbf,hF _ (hs s (by simp))]
  rw [sQ,sQ,he]
  exact yV hc (fun x hx=>hs x (List.mem_cons_of_mem _ hx)) fun i hi=>by
   unfold upd;split
   ·rfl
   ·exact hF i hi
section
variable {c:ae}{ts:List (Bool×Int)}{d:Nat}{x y:ax}{p:List ap}
theorem rA(hd:d < c.2.1.length)(hx:x.1=[]){w:Bool×Int}:ji (wD c (c.2.1.set d x)) (d:Int) w=false:=by
 unfold ji;rw [rp hd (Int.natCast_nonneg d),if_pos rfl,hx];simp
theorem uU(hd:d < c.2.1.length){i:Int}(hi:0≤i)(hne:i≠d){w:Bool×Int}:ji (wD c (c.2.1.set d x)) i w=ji c i w:=by
 unfold ji;rw [rp hd hi,if_neg hne];rfl
theorem Ix(hd:d < c.2.1.length)(hx:x.1=[])(hy:y.1=[]):tL (wD c (c.2.1.set d x)) ts p=tL (wD c (c.2.1.set d y)) ts p:=
 yN (c:=wD c (c.2.1.set d y)) (c':=wD c (c.2.1.set d x)) rfl (by simp) fun i w h0 _ _=>by
  by_cases h:i=(d:Int)
  ·
   subst h;rw [rA hd hx,rA hd hy]
  ·
   rw [uU hd h0 h,uU hd h0 h]
theorem H4(hd:d < c.2.1.length)(hx:x.1=[])(h:tL (wD c (c.2.1.set d x)) ts p=0):∀s∈p,s.2.toNat≠d:=fun s hs e=>by
 obtain⟨⟨_,_,h0,_⟩,hc,_⟩:=(nQ (qC h).2).1 s hs
 have:s.2=(d:Int):=by omega
 rw [this,rA hd hx] at hc
 cases hc
theorem KX(hd:d < c.2.1.length)(hx:x.1=[])(h:tL (wD c (c.2.1.set d x)) ts p=0):tL c ts p=0:=
 BD (c:=wD c (c.2.1.set d x)) (c':=c) rfl (by simp) (fun i w h0 _ _ hc=>by
  by_cases h:i=(d:Int)
  ·
   subst h;rw [rA hd hx] at hc;cases hc
  ·
   rwa [uU hd h0 h] at hc) h
theorem qp(hd:d < c.2.1.length)(hx:x.1=[])(h:tL (wD c (c.2.1.set d x)) ts p=0):gX (wD c (c.2.1.set d x)) ts p=gX c ts p:=by
 unfold gX
 rw [yV (c:=c) (c':=wD c (c.2.1.set d x)) rfl (d:=d) (F:=F0 c) (H4 hd hx h) fun i hi=>by
  unfold F0;rw [rp hd (Int.natCast_nonneg i),if_neg (by omega)]]
theorem Il(hd:d < c.2.1.length)(hx:x.1=[])(hy:y.1=[]):(bB (wD c (c.2.1.set d x)) ts).1=(bB (wD c (c.2.1.set d y)) ts).1∧(bB (wD c (c.2.1.set d x)) ts).2.1=(bB (wD c (c.2.1.set d y)) ts).2.1:=by
 have hcp:=fun p=>Ix (c:=c) (ts:=ts) (p:=p) hd hx hy;rcases lS (c:=wD c (c.2.1.set d x)) (ts:=ts) with⟨a1,a2,a3⟩ |⟨a1,a2,a3,a4⟩ <;> rcases lS (c:=wD c (c.2.1.set d y)) (ts:=ts) with⟨b1,b2,b3⟩ |⟨b1,b2,b3,b4⟩
 ·rw [a1,b1,a2,b2];exact⟨rfl,rfl⟩
 ·exact absurd ((hcp _).trans b2) (a3 _)
 ·exact absurd ((hcp _).symm.trans a2) (b3 _)
 ·rw [a1,b1];refine⟨rfl,?_⟩;have l1:=qp hd hx a2;have l2:=qp hd hy b2;have m1:=a4 _ ((hcp _).trans b2);have m2:=b4 _ ((hcp _).symm.trans a2);rw [qp hd hx ((hcp _).trans b2)] at m1;rw [qp hd hy ((hcp _).symm.trans a2)] at m2;omega
theorem KP(hd:d < c.2.1.length)(hx:x.1=[])(h:(bB (wD c (c.2.1.set d x)) ts).1=true):(bB c ts).1=true∧(bB c ts).2.1≤(bB (wD c (c.2.1.set d x)) ts).2.1:=by
 rcases lS (c:=wD c (c.2.1.set d x)) (ts:=ts) with⟨a1,_⟩ |⟨_,a2,a3,_⟩
 ·rw [a1] at h;cases h
 ·have b:=KX hd hx a2;have hs:(bB c ts).1=true:=uO.2 ⟨_,b⟩;refine⟨hs,?_⟩;rcases lS (c:=c) (ts:=ts) with⟨hf,_⟩ |⟨_,_,_,b4⟩
  ·rw [hf] at hs;cases hs
  ·rw [a3,qp hd hx a2];exact b4 _ b
end
theorem Lm{n:Int}{c:ae}{mv:List Bool}{q:cS}{ds:List ax}(hW:NH n c)(hq:QV n c mv q)(hd:∀x∈ds,kl n x)(hl:1≤ds.length∧ds.length≤3):QV n (wD c ds) mv (wD c ds,q.2):=
 ⟨hW ds hd hl,tH hq.fix,rfl,hq.tasks,hq.t4,hq.len,hq.masks⟩
theorem xw{s:Int}{j:Nat}(h:∀i,j≤i→¬cu s i):∀{m:Nat},j≤m→fS s m=fS s j
 |0,h'=>by obtain rfl:j=0:=by omega
           rfl
 |m+1,h'=>by
  by_cases e:j=m+1
  ·
   subst e;rfl
  ·
   rw [nr,if_neg (h m (by omega)),List.append_nil,xw h (by omega)]
theorem Iz{k:Nat}{l:List ax}(h:l.length≤1000):bS k l=some l:=by
 unfold bS;rw [cO (bH h),bs]
theorem CB{k:Nat}(hk:50≤k){n:Int}{c:ae}{mv:List Bool}{q:cS}(hW:NH n c)(hq:QV n c mv q){d:Nat}(hd:d < c.2.1.length):
 bW k (q.1,q.2.1,q.2.2,()) (d:Int)=some ((bB (wD c (c.2.1.set d ([],c.2.1[d].2.1,c.2.1[d].2.2))) (aI c mv)).2.1,(bB (wD c (c.2.1.set d ([],c.2.1[d].2.1,c.2.1[d].2.2))) (aI c mv)).1):=by
 have hdl:=hq.vc.dl
 have hxG:=hq.vc.dressers _ (List.getElem_mem hd)
 have hq':=Lm hW hq (ds:=c.2.1.set d ([],c.2.1[d].2.1,c.2.1[d].2.2)) (tB hq.vc.dressers ⟨lD.nil,hxG.side,hxG.start⟩) (by simpa using hdl)
 unfold bW
 simp only [hq.eq]
 rw [Iz (by omega),bs,aY hd,bs]
 rw [show Int.toNat (d:Int)=d from by omega]
 have e:=oD hk hq'
 rw [show f6 k ((c.1,List.set c.2.1 d ([],c.2.1[d].2.1,c.2.1[d].2.2),c.2.2),q.2.1,q.2.2)=_ from e,bs]
 rfl
theorem Do{rs:Nat→Int×Bool}{o:Nat→Int}{now:Int}:∀{l:List Nat} {s:Int},jr s→(∀i∈l,jr (o i)∧∀j:Nat,cu (o i) j↔j=i)→jr (l.foldl (mw rs o now) s)∧∀j,cu (l.foldl (mw rs o now) s) j↔cu s j∨(j∈l∧eP (rs j) now=true)
 |[],s,hs,_=>⟨hs,fun j=>by simp⟩
 |i::l,s,hs,ho=>by
  obtain⟨h1,h2⟩:=ho i (by simp)
  by_cases hf:eP (rs i) now=true
  ·
   obtain⟨g1,g2⟩:=po hs h1
   obtain⟨r1,r2⟩:=Do (rs:=rs) (o:=o) (now:=now) (l:=l) g1 fun x hx=>ho x (List.mem_cons_of_mem _ hx)
   rw [List.foldl_cons,show mw rs o now s i=nF .u8 s (o i) by rw [mw,if_pos hf]]
   refine⟨r1,fun j=>?_⟩
   rw [r2,g2,h2,List.mem_cons]
   constructor
   ·
    rintro((h |rfl) |h)
    ·
     exact .inl h
    ·
     exact .inr ⟨.inl rfl,hf⟩
    ·
     exact .inr ⟨.inr h.1,h.2⟩
   ·
    rintro(h |⟨rfl |h,h'⟩)
    ·
     exact .inl (.inl h)
    ·
     exact .inl (.inr rfl)
    ·
     exact .inr ⟨h,h'⟩
  ·
   obtain⟨r1,r2⟩:=Do (rs:=rs) (o:=o) (now:=now) (l:=l) hs fun x hx=>ho x (List.mem_cons_of_mem _ hx)
   rw [List.foldl_cons,show mw rs o now s i=s by rw [mw,if_neg hf]]
   refine⟨r1,fun j=>?_⟩
   rw [r2,List.mem_cons]
   constructor
   ·
    rintro(h |h)
    ·
     exact .inl h
    ·
     exact .inr ⟨.inr h.1,h.2⟩
   ·
    rintro(h |⟨rfl |h,h'⟩)
    ·
     exact .inl h
    ·
     exact absurd h' hf
    ·
     exact .inr ⟨h,h'⟩
theorem A5{α:Type}{d:α}{f:Nat→Option α}{N:Nat}{g:Nat→α}(h:∀i,i < N→f i=some (g i)):∃g',yC d f N=some g'∧∀i,i < N→g' i=g i:=by
 refine⟨fun i=>(f i).getD d,?_,fun i hi=>by simp only [h i hi,Option.getD_some]⟩;unfold yC;rw [if_pos];rw [List.all_eq_true];intro i hi;rw [h i (List.mem_range.1 hi)];rfl
theorem A3{k:Nat}(hk:50≤k){n:Int}{c:ae}{mv:List Bool}{q:cS}(hW:NH n c)(hq:QV n c mv q)(hb:bM k c=some (some q,0)):
 W (iS k c) fun r=>if(bB c (aI c mv)).1=true then r.2=0∧∃s,r.1=fS s 8∧(∀i,c.2.1.length≤i→¬cu s i)∧∀(i:Nat) (h:i < c.2.1.length),cu s i↔(bB (wD c (c.2.1.set i ([],c.2.1[i].2.1,c.2.1[i].2.2))) (aI c mv)).1=true∧(bB (wD c (c.2.1.set i ([],c.2.1[i].2.1,c.2.1[i].2.2))) (aI c mv)).2.1≤(bB c (aI c mv)).2.1
  else r=([],11):=by
 have hdl:=hq.vc.dl
 unfold iS
 rw [hb,bs,rq,if_neg (by simp)]
 have hcq:(((q.1.1,q.1.2.1,q.1.2.2.1,q.1.2.2.2),q.2.1,q.2.2):cS)=q:=rfl
 rw [hcq,oD hk hq,bs]
 have hfe:kf (gX c (aI c mv)) (false,0,[]) (jy c (aI c mv))=bB c (aI c mv):=rfl
 rw [hfe]
 by_cases hf:(bB c (aI c mv)).1=true
 ·
  simp only [hf,not_true_eq_false,if_false,if_true];unfold vH;have hN:∀i,i < q.1.2.1.length↔i < c.2.1.length:=fun i=>by rw [hq.eq]
  obtain⟨rs,e1,h1⟩:=A5 (d:=((0:Int),false)) (f:=fun i=>bW k (q.1,q.2.1,q.2.2,()) (i:Int)) (N:=c.2.1.length)
   (g:=fun i=>if h:i < c.2.1.length then((bB (wD c (c.2.1.set i ([],c.2.1[i].2.1,c.2.1[i].2.2))) (aI c mv)).2.1,(bB (wD c (c.2.1.set i ([],c.2.1[i].2.1,c.2.1[i].2.2))) (aI c mv)).1) else(0,false)) (fun i hi=>by
    simp only [hi,dif_pos];exact CB hk hW hq hi)
  have hof:∀i,i < c.2.1.length→∃m,eK k [(i:Int)]=some m∧jr m∧∀j:Nat,cu m j↔j=i:=fun i hi=>by
   obtain⟨m,em,h1,h2⟩:=ij hk (l:=[(i:Int)]) (by simp) (by simp;omega);exact⟨m,em,h1,fun j=>by rw [h2,List.mem_singleton];omega⟩
  obtain⟨o,e2,h2⟩:=A5 (d:=(0:Int)) (f:=fun i=>eK k [(i:Int)]) (N:=c.2.1.length) (g:=fun i=>(eK k [(i:Int)]).getD 0) (fun i hi=>by
   obtain⟨m,em,_⟩:=hof i hi;simp only [em,Option.getD_some])
  have ho:∀i∈List.range c.2.1.length,jr (o i)∧∀j:Nat,cu (o i) j↔j=i:=fun i hi=>by
   have hi:=List.mem_range.1 hi;obtain⟨m,em,hm⟩:=hof i hi;rw [h2 i hi,em];exact hm
  obtain⟨m1,m2⟩:=Do (rs:=rs) (o:=o) (now:=(bB c (aI c mv)).2.1) (l:=List.range c.2.1.length) (s:=0) ⟨by decide,by decide⟩ ho;have el:((q.1,q.2.1,q.2.2,()):fp).1.2.1.length=c.2.1.length:=by simp only [hq.eq]
  rw [show((q.1.1,q.1.2.1,q.1.2.2.1,q.1.2.2.2),q.2.1,q.2.2,())=((q.1,q.2.1,q.2.2,()):fp) from rfl];rw [el,e1,bs,e2,bs,if_pos (by omega)];rw [show kK rs o (bB c (aI c mv)).2.1 (List.range c.2.1.length)=(List.range c.2.1.length).foldl (mw rs o (bB c (aI c mv)).2.1) 0 from rfl];rw [nJ hk m1,bs];refine W.ret ⟨rfl,_,rfl,fun i hi h=>?_,fun i hi=>?_⟩
  ·rw [m2] at h;rcases h with h |h
   ·simp [cu] at h
   ·have:=List.mem_range.1 h.1;omega
  ·rw [m2,h1 i hi];simp only [hi,dif_pos,eP,Bool.and_eq_true,decide_eq_true_eq,List.mem_range,true_and];constructor
   ·rintro(h |h)
    ·simp [cu] at h
    ·exact h
   ·exact .inr
 ·
  have hf':(bB c (aI c mv)).1=false:=by simpa using hf
  simp only [hf',Bool.false_eq_true,not_false_eq_true,if_true,if_false];exact W.ret rfl
theorem IA{k:Nat}{l:List ax}(h:l.length≤1000):bS k l=some l:=by
 unfold bS;rw [cO (bH h),bs]
theorem Iy{c:ae}{ts:List (Bool×Int)}{d:Nat}{x:ax}{v:Int}(hx:c.2.1[d]? =some x){p:List ap}:tL (wD c (c.2.1.set d (x.1,x.2.1,v))) ts p=tL c ts p:=
 yN (c:=c) (c':=wD c (c.2.1.set d (x.1,x.2.1,v))) rfl (by simp) fun i w h0 _ _=>yS (c:=c) (ds:=c.2.1) hx h0
theorem FO{c:ae}{ts:List (Bool×Int)}{d:Nat}{x:ax}{v:Int}(hx:c.2.1[d]? =some x)(h:(bB c ts).1=true):(bB (wD c (c.2.1.set d (x.1,x.2.1,v))) ts).1=true:=by
 rw [uO] at h⊢;obtain⟨p,hp⟩:=h;exact⟨p,by rw [Iy hx,hp]⟩
theorem GO{k:Nat}(hk:50≤k){n:Int}{c:ae}{mv:List Bool}{q:cS}(hW:NH n c)(hq:QV n c mv q)(hb:bM k c=some (some q,0)){d:Nat}{x:ax}(hx:c.2.1[d]? =some x):
 W (jP k c (d:Int)) fun r=>if(bB c (aI c mv)).1=true then r.2=0∧x.2.2≤r.1∧r.1≤9∧(bB (wD c (c.2.1.set d (x.1,x.2.1,r.1))) (aI c mv)).2.1≤(bB c (aI c mv)).2.1∧
  (r.1 < 9→(bB c (aI c mv)).2.1 < (bB (wD c (c.2.1.set d (x.1,x.2.1,r.1+1))) (aI c mv)).2.1) else r=(0,11):=by
 have hdl:=hq.vc.dl
 have hd:d < c.2.1.length:=(List.getElem?_eq_some_iff.1 hx).1
 have hxG:=hq.vc.dressers x (List.mem_of_getElem? hx)
 have hst:=hxG.start
 unfold jP
 rw [hb,bs,rq,if_neg (by simp),hq.eq,bK (by omega) (by omega),bs,ww,bs]
 have hno:¬¬(0≤(d:Int)∧(d:Int)≤(c.2.1.length:Int) - 1):=by omega
 rw [decide_eq_false hno,if_neg (by simp)]
 have hcq:(((c.1,c.2.1,c.2.2.1,c.2.2.2),q.2.1,q.2.2):cS)=q:=by rw [←hq.eq]
 rw [hcq,oD hk hq,bs]
 have hfe:kf (gX c (aI c mv)) (false,0,[]) (jy c (aI c mv))=bB c (aI c mv):=rfl
 rw [hfe]
 by_cases hf:(bB c (aI c mv)).1=true
 ·
  simp only [hf,not_true_eq_false,if_false,if_true];rw [IA (by omega),bs]
  refine W.loop (f:=jO k (d:Int) q ((bB c (aI c mv)).2.2,(bB c (aI c mv)).2.1,true)) (fun m y=>x.2.2≤y.1∧y.1≤9∧m=(y.1 - x.2.2).toNat∧(∃z:ax,y.2[d]? =some z∧z.1=x.1∧z.2.1=x.2.1)∧(∀v,y.2.set d v=c.2.1.set d v)∧
   (y.1 < 9→(bB c (aI c mv)).2.1 < (bB (wD c (c.2.1.set d (x.1,x.2.1,y.1+1))) (aI c mv)).2.1)) ?_ (9 - x.2.2).toNat k (9,c.2.1) (by omega) ⟨by omega,by simp,rfl,⟨x,hx,rfl,rfl⟩,fun _=>rfl,fun h=>by simp at h⟩
  rintro aH m ⟨from_,oth⟩ ⟨h1,h2,hm,⟨z,hz,z1,z2⟩,hset,hmore⟩ ih;simp only at h1 h2 hm hz hset hmore;unfold jO;dsimp only;rw [qw (by omega) (by simpa using hz),bs,z1,z2];have e1:(Int.toNat (d:Int))=d:=by omega
  rw [e1,hset];obtain⟨q',hb',hq'⟩:=hW.go hk hq (ds:=c.2.1.set d (x.1,x.2.1,from_)) (tB hq.vc.dressers (wT hxG (by omega))) (by simpa using hdl);rw [Dy hk (c:=wD c (c.2.1.set d (x.1,x.2.1,from_))) (by simp only [hq.eq]) hq' hb',bs];have ets:aI (wD c (c.2.1.set d (x.1,x.2.1,from_))) mv=aI c mv:=rfl;simp only [ets];refine W.ite (fun hlt=>?_) (fun hge=>W.ret ⟨rfl,h1,h2,by simp only;omega,hmore⟩)
  have hne:from_≠x.2.2:=fun e=>by
   subst e
   have e2:c.2.1.set d (x.1,x.2.1,x.2.2)=c.2.1:=by
    apply List.ext_getElem?;intro i;rw [List.getElem?_set];by_cases hi:d=i
    ·subst hi;rw [if_pos rfl,if_pos hd,hx]
    ·rw [if_neg hi]
   rw [e2] at hlt;exact absurd hlt (Int.lt_irrefl _)
  rw [bK (by omega) (by omega),bs];refine ih (m - 1) (from_ - 1,_) (by omega) ⟨by simp only;omega,by simp only;omega,by simp only;omega,⟨(x.1,x.2.1,from_),by simp [hd],rfl,rfl⟩,fun v=>by simp [List.set_set],fun _=>?_⟩;have:from_ - 1+1=from_:=by omega
  simp only [this];exact hlt
 ·
  have hf':(bB c (aI c mv)).1=false:=by simpa using hf
  simp only [hf',Bool.false_eq_true,not_false_eq_true,if_true,if_false];exact W.ret rfl
theorem G6:∀{l m:List Int},l.Pairwise (· < ·)→m.Pairwise (· < ·)→(∀x,x∈l↔x∈m)→l=m
 |[],[],_,_,_=>rfl
 |[],y::m,_,_,h=>by have:=(h y).2 (by simp);simp at this
 |x::l,[],_,_,h=>by have:=(h x).1 (by simp);simp at this
 |x::l,y::m,hl,hm,h=>by
  obtain⟨h1,h2⟩:=List.pairwise_cons.1 hl
  obtain⟨h3,h4⟩:=List.pairwise_cons.1 hm
  have hxy:x=y:=by
   have a:=(h x).1 (by simp);have b:=(h y).2 (by simp);rcases List.mem_cons.1 a with a |a
   ·exact a
   ·rcases List.mem_cons.1 b with b |b
    ·exact b.symm
    ·have:=h3 x a;have:=h1 y b;omega
  subst hxy;congr 1;refine G6 h2 h4 fun z=>?_;constructor
  ·intro hz;rcases List.mem_cons.1 ((h z).1 (List.mem_cons_of_mem _ hz)) with a |a
   ·have:=h1 z hz;omega
   ·exact a
  ·intro hz;rcases List.mem_cons.1 ((h z).2 (List.mem_cons_of_mem _ hz)) with a |a
   ·have:=h3 z hz;omega
   ·exact a
def Ax(a b c d:Bool):List Int:=(if a=true then [0] else [])++(if b=true then [1] else [])++(if c=true then [2] else [])++(if d=true then [3] else [])
theorem HU{a b c d:Bool}{x:Int}:x∈Ax a b c d↔(x=0∧a=true)∨(x=1∧b=true)∨(x=2∧c=true)∨(x=3∧d=true):=by
 unfold Ax;cases a <;> cases b <;> cases c <;> cases d <;> simp
theorem JP{a b c d:Bool}:(Ax a b c d).Pairwise (· < ·):=by
 unfold Ax;cases a <;> cases b <;> cases c <;> cases d <;> decide
theorem BP{l:List Int}{n:Int}(hl:lD l n)(hn:n≤4):l=Ax (decide ((0:Int)∈l)) (decide ((1:Int)∈l)) (decide ((2:Int)∈l)) (decide ((3:Int)∈l)):=
 G6 hl.1 JP fun x=>by
  rw [HU]
  simp only [decide_eq_true_eq]
  constructor
  ·
   intro h
   have:=hl.2 x h
   have hx:x=0∨x=1∨x=2∨x=3:=by omega
   rcases hx with rfl |rfl |rfl |rfl
   ·
    exact .inl ⟨rfl,h⟩
   ·
    exact .inr (.inl ⟨rfl,h⟩)
   ·
    exact .inr (.inr (.inl ⟨rfl,h⟩))
   ·
    exact .inr (.inr (.inr ⟨rfl,h⟩))
  ·
   rintro(⟨rfl,h⟩ |⟨rfl,h⟩ |⟨rfl,h⟩ |⟨rfl,h⟩) <;> exact h
def sM(k:Nat):Prop:=∀a∈[false,true],∀b∈[false,true],∀c∈[false,true],∀d∈[false,true],∀t∈[(0:Int),1,2,3],t∈Ax a b c d∨
 kW k (Ax a b c d++[t])=some (Ax (a || decide (t=0)) (b || decide (t=1)) (c || decide (t=2)) (d || decide (t=3)))
instance (k:Nat):Decidable (sM k):=by unfold sM;infer_instance
theorem JE{k:Nat}(hS:sM k){l r:List Int}{n t:Int}(hl:lD l n)(hn:n≤4)(ht:0≤t∧t < n)(hnt:t∉l)(hr:lD r n)(hm:∀x,x∈r↔0≤x∧x < n∧(x=t∨x∈l)):kW k (l++[t])=some r:=by
 have e1:=BP hl hn;have e2:=BP hr hn;have tb:∀b:Bool,b∈[false,true]:=fun b=>by cases b <;> simp
 have ht4:t∈[(0:Int),1,2,3]:=by
  have:t=0∨t=1∨t=2∨t=3:=by omega
  simpa using this
 have:=hS _ (tb (decide ((0:Int)∈l))) _ (tb (decide ((1:Int)∈l))) _ (tb (decide ((2:Int)∈l))) _ (tb (decide ((3:Int)∈l))) t ht4;rw [←e1] at this;rw [this.resolve_left hnt,e2]
 have hb:∀i:Int,0≤i→(decide (i∈l) || decide (t=i))=decide (i∈r):=fun i hi=>by
  rw [Bool.eq_iff_iff];simp only [Bool.or_eq_true,decide_eq_true_eq];rw [hm];constructor
  ·rintro(h |h)
   ·have:=hl.2 i h;exact⟨hi,this.2,.inr h⟩
   ·exact⟨hi,by omega,.inl h.symm⟩
  ·rintro⟨_,_,h |h⟩
   ·exact .inr h.symm
   ·exact .inl h
 rw [hb 0 (by decide),hb 1 (by decide),hb 2 (by decide),hb 3 (by decide)]
def zG(c:ae)(ts:List (Bool×Int))(y:Nat→Nat→ax)(d:Nat)(s:Int×Bool×Int×Int)(t:Nat):Int×Bool×Int×Int:=
 if(t:Int)∈(oK c (d:Int)).1 then s
 else if(bB (wD c (c.2.1.set d (y d t))) ts).1=true∧(s.2.1=false∨(bB (wD c (c.2.1.set d (y d t))) ts).2.1 < s.1) then((bB (wD c (c.2.1.set d (y d t))) ts).2.1,true,(d:Int),(t:Int)) else s
def zH(c:ae)(ts:List (Bool×Int))(y:Nat→Nat→ax)(s:Int×Bool×Int×Int)(d:Nat):Int×Bool×Int×Int:=(List.range c.1.length).foldl (zG c ts y d) s
def rG(c:ae)(ts:List (Bool×Int))(y:Nat→Nat→ax)(s:Int×Bool×Int×Int):Int×Bool×Int×Int:=(List.range c.2.1.length).foldl (zH c ts y) s
structure vP(n:Int)(c:ae)(y:Nat→Nat→ax):Prop where
 rest:∀d t,d < c.2.1.length→t < c.1.length→(y d t).2=(oK c (d:Int)).2
 asc:∀d t,d < c.2.1.length→t < c.1.length→lD (y d t).1 n
 mem:∀d t,d < c.2.1.length→t < c.1.length→∀x,x∈(y d t).1↔0≤x∧x < n∧(x=(t:Int)∨x∈(oK c (d:Int)).1)
theorem tw{n:Int}{c:ae}{y:Nat→Nat→ax}(hc:VC n c)(h:vP n c y){d t:Nat}(hd:d < c.2.1.length)(ht:t < c.1.length):kl n (y d t):=by
 have hx:oK c (d:Int)=c.2.1[d]:=by simp [oK,List.getElem?_eq_getElem hd]
 have hG:=hc.dressers _ (List.getElem_mem hd);refine⟨h.asc d t hd ht,?_,?_⟩
 ·rw [h.rest d t hd ht,hx];exact hG.side
 ·rw [h.rest d t hd ht,hx];exact hG.start
theorem F3{k:Nat}{l:List ax}(h:l.length≤1000):bS k l=some l:=by
 unfold bS;rw [cO (bH h),bs]
theorem F2{k:Nat}{l:List Int}(h:l.length≤1000):j6 k l=some l:=by
 unfold j6;rw [cO (bH h),bs]
theorem I2{k:Nat}(hk:50≤k)(hS:sM k){n:Int}{c:ae}{mv:List Bool}{q:cS}{y:Nat→Nat→ax}(hq:QV n c mv q)(hb:bM k c=some (some q,0))(hy:vP n c y)
 (hW:∀d t,d < c.2.1.length→t < c.1.length→∃q',bM k (wD c (c.2.1.set d (y d t)))=some (some q',0)∧QV n (wD c (c.2.1.set d (y d t))) mv q'):
 kQ k c=some (if(rG c (aI c mv) y ((bB c (aI c mv)).2.1,(bB c (aI c mv)).1, -1, -1)).2.2.1 < 0 then(0,0,0,11) else
  ((rG c (aI c mv) y ((bB c (aI c mv)).2.1,(bB c (aI c mv)).1, -1, -1)).2.2.1,(rG c (aI c mv) y ((bB c (aI c mv)).2.1,(bB c (aI c mv)).1, -1, -1)).2.2.2,(rG c (aI c mv) y ((bB c (aI c mv)).2.1,(bB c (aI c mv)).1, -1, -1)).1,0)):=by
 have hc:=hq.vc
 have hdl:=hc.dl
 have hn:=hc.n4
 have hln:=hc.len
 obtain⟨w1,w2,w3,w4,w5⟩:=hc.wl
 have hcq:(((q.1.1,q.1.2.1,q.1.2.2.1,q.1.2.2.2),q.2.1,q.2.2):cS)=q:=rfl
 unfold kQ
 rw [hb,bs,rq,if_neg (by simp),hcq,oD hk hq,bs]
 have hfe:kf (gX c (aI c mv)) (false,0,[]) (jy c (aI c mv))=bB c (aI c mv):=rfl
 rw [hfe]
 simp only
 have in2:∀(d:Nat) (y9:Int×Bool×Int×Int×Int) (s:Int×Bool×Int×Int),d < c.2.1.length→y9.2.2.2.2=(d:Int)→gC k q y9 k (s.1,s.2.1,s.2.2.1,s.2.2.2,0)=some (zH c (aI c mv) y s d):=fun d y9 s hd hy9=>by
  have hx:oK c (d:Int)=c.2.1[d]:=by simp [oK,List.getElem?_eq_getElem hd]
  have key:=qy (f:=gC k q y9) (List.range c.1.length) (fun(s:Int×Bool×Int×Int) j=>(s.1,s.2.1,s.2.2.1,s.2.2.2,j)) (fun s _ t=>zG c (aI c mv) y d s t) (fun _ _=>True) (fun s=>some s)
   (fun m s t ht _=>⟨by
    have ht:t < c.1.length:=by simpa using ht
    have hrt:(List.range c.1.length)[t]'(by simpa using ht)=t:=by simp
    have hck:ck ((t:Int)+1)=some ((t:Int)+1):=bK (by omega) (by omega);have hl5:=w5 _ (List.getElem_mem hd);rw [gC];dsimp only;rw [hq.eq,if_pos (by omega),hy9,aY hd,bs,vk (by omega) (by omega),bs,hrt];unfold zG;rw [hx];by_cases hm:(t:Int)∈c.2.1[d].1
    ·rw [decide_eq_true hm,if_pos rfl,if_pos hm,bs,hck,bs]
    ·rw [decide_eq_false hm,if_neg (by decide),if_neg hm,F3 (by omega),bs,aY hd,bs,F2 (by omega),bs,cO (bH (by simp only [List.length_cons,List.length_nil];omega)),bs,bs,
      JE hS (r:=(y d t).1) (hc.dressers _ (List.getElem_mem hd)).can hn.2 (by omega) hm (hy.asc d t hd ht) (by have:=hy.mem d t hd ht;rw [hx] at this;exact this),bs]
     obtain⟨q',hb',hq'⟩:=hW d t hd ht;have hset:((y d t).1,c.2.1[d].2.1,c.2.1[d].2.2)=y d t:=by rw [←hx,←hy.rest d t hd ht]
     have hd':Int.toNat (d:Int)=d:=by omega
     rw [hset,hd',FM hk (c:=wD c (c.2.1.set d (y d t))) rfl hq' hb',bs];have ets:aI (wD c (c.2.1.set d (y d t))) mv=aI c mv:=rfl;rw [ets];obtain⟨s1,s2,s3,s4⟩:=s;simp only;generalize bB (wD c (c.2.1.set d (y d t))) (aI c mv)=f;obtain⟨f1,f2,f3⟩:=f;cases f1 <;> cases s2 <;> by_cases hlt:f2 < s1 <;> simp [hlt,hck],trivial⟩)
   (fun m s _=>by rw [gC];simp [hq.eq]) (n:=k) (s0:=s) (by simp;omega) trivial
  have key:=key.1
  have hf:∀(l:List Nat) (j:Nat) (s:Int×Bool×Int×Int),qz (fun s _ t=>zG c (aI c mv) y d s t) j l s=l.foldl (zG c (aI c mv) y d) s:=by
   intro l
   induction l with
   |nil=>intro j s;rfl
   |cons a l ih=>intro j s;exact ih _ _
  rw [hf] at key;exact key
 have out:∀s:Int×Bool×Int×Int,gG k q k (s.1,s.2.1,s.2.2.1,s.2.2.2,0)=some ((rG c (aI c mv) y s).1,(rG c (aI c mv) y s).2.2.1,(rG c (aI c mv) y s).2.2.2):=fun s=>by
  have key:=qy (f:=gG k q) (List.range c.2.1.length) (fun(s:Int×Bool×Int×Int) j=>(s.1,s.2.1,s.2.2.1,s.2.2.2,j)) (fun s _ d=>zH c (aI c mv) y s d) (fun _ _=>True) (fun s=>some (s.1,s.2.2.1,s.2.2.2))
   (fun m s d hd _=>⟨by
    have hd:d < c.2.1.length:=by simpa using hd
    have hrt:(List.range c.2.1.length)[d]'(by simpa using hd)=d:=by simp
    rw [gG];dsimp only;rw [hq.eq,if_pos (by omega),in2 d _ s hd rfl,bs,bK (by omega) (by omega),bs,hrt],trivial⟩)
   (fun m s _=>by rw [gG];simp [hq.eq]) (n:=k) (s0:=s) (by simp;omega) trivial
  have key:=key.1
  have hf:∀(l:List Nat) (j:Nat) (s:Int×Bool×Int×Int),qz (fun s _ d=>zH c (aI c mv) y s d) j l s=l.foldl (zH c (aI c mv) y) s:=by
   intro l
   induction l with
   |nil=>intro j s;rfl
   |cons a l ih=>intro j s;exact ih _ _
  rw [hf] at key;exact key
 rw [out ((bB c (aI c mv)).2.1,(bB c (aI c mv)).1, -1, -1),bs]
 by_cases h0:(rG c (aI c mv) y ((bB c (aI c mv)).2.1,(bB c (aI c mv)).1, -1, -1)).2.2.1 < 0
 ·
  rw [if_pos h0,if_pos h0]
 ·
  rw [if_neg h0,if_neg h0]
def LM(pr:Option Int)(x:Int):Bool:=match pr with
 |some p=>decide (x≤p)
 |none=>false
def jW(n but:Int):Option Int→List Int→Int
 |_,[]=>0
 |pr,x::l=>if¬(0≤x∧x≤n - 1)∨x=but then 3 else if LM pr x=true then 5 else jW n but (some x) l
theorem oC{n but:Int}:∀{l:List Int} {pr:Option Int},jW n but pr l=0↔(∀x∈l,0≤x∧x < n∧x≠but)∧l.Pairwise (· < ·)∧∀p,pr=some p→∀x∈l,p < x
 |[],pr=>by simp [jW]
 |x::l,pr=>by
  rw [jW]
  by_cases h1:¬(0≤x∧x≤n - 1)∨x=but
  ·
   rw [if_pos h1]
   refine⟨fun h=>(by cases h),fun h=>?_⟩
   have:=h.1 x (by simp)
   omega
  ·
   rw [if_neg h1]
   have hx:0≤x∧x < n∧x≠but:=by omega
   by_cases h2:LM pr x=true
   ·
    rw [if_pos h2]
    refine⟨fun h=>(by cases h),fun h=>?_⟩
    cases pr with
    |none=>cases h2
    |some p=>
     have:=h.2.2 p rfl x (by simp)
     have h2:=of_decide_eq_true h2
     omega
   ·
    rw [if_neg h2,oC]
    have hp:∀p,pr=some p→p < x:=fun p e=>by
     subst e
     have h2:¬decide (x≤p)=true:=h2
     rw [decide_eq_true_eq] at h2
     omega
    constructor
    ·
     rintro⟨a,b,d⟩
     refine⟨fun y hy=>?_,List.pairwise_cons.2 ⟨fun y hy=>d x rfl y hy,b⟩,fun p e y hy=>?_⟩
     ·
      rcases List.mem_cons.1 hy with rfl |hy
      ·
       exact hx
      ·
       exact a y hy
     ·
      have hpx:=hp p e
      rcases List.mem_cons.1 hy with rfl |hy
      ·
       exact hpx
      ·
       have:=d x rfl y hy;omega
    ·
     rintro⟨a,b,d⟩
     obtain⟨b1,b2⟩:=List.pairwise_cons.1 b
     exact⟨fun y hy=>a y (List.mem_cons_of_mem _ hy),b2,fun p e y hy=>by cases e;exact b1 y hy⟩
theorem qi{k:Nat}{x a b:Int}:bD k x a b=some (decide (¬(a≤x∧x≤b))):=by
 unfold bD;by_cases h:x < a
 ·rw [if_pos h,bs,decide_eq_true (by omega)]
 ·rw [if_neg h,bs];congr 1;rw [decide_eq_decide];omega
def Gw(l:List Int)(j:Nat):Option Int:=if j=0 then none else l[j - 1]?
theorem mN{k:Nat}(hk:50≤k){l:List Int}{n but:Int}(hl:l.length≤20)(hn:0≤n∧n≤1000):cK k l n but=some (jW n but none l):=by
 have key:W (cX k l n but k 0) fun r=>r=match jW n but none l with |0=>.ok () |e=>.error e:=by
  refine W.loop (f:=cX k l n but) (fun q y=>∃j:Nat,y=(j:Int)∧j≤l.length∧q=l.length - j∧jW n but none l=jW n but (Gw l j) (l.drop j)) ?_ l.length k 0 (by omega) ⟨0,rfl,by omega,by omega,by simp [Gw]⟩;rintro aH q y ⟨j,hj,hle,hq,hE⟩ ih;subst hj;unfold cX
  refine W.ite (fun hlt=>?_) (fun hge=>W.ret (by
   have:j=l.length:=by omega
   subst this;rw [hE,List.drop_length];rfl))
  have hlt':j < l.length:=by omega
  have hdr:l.drop j=l[j]::l.drop (j+1):=List.drop_eq_getElem_cons hlt';rw [hdr,jW] at hE;rw [aY hlt',bs,bK (by omega) (by omega),bs,qi,bs]
  have hb:(if decide (¬(0≤l[j]∧l[j]≤n - 1))=true then some true else some (decide (l[j]=but)))=some (decide (¬(0≤l[j]∧l[j]≤n - 1)∨l[j]=but)):=by
   by_cases h:0≤l[j]∧l[j]≤n - 1 <;> simp [h]
  rw [hb,bs];by_cases h1:¬(0≤l[j]∧l[j]≤n - 1)∨l[j]=but
  ·rw [if_pos h1] at hE;rw [decide_eq_true h1,if_pos rfl,hE];exact W.ret rfl
  ·rw [if_neg h1] at hE;rw [decide_eq_false h1,if_neg (by decide)]
   have hp:(if(0:Int) < (j:Int) then((ck ((j:Int) - 1)).bind fun x12=>(aL l x12).bind fun x13=>some (decide (l[j]≤x13))) else some false)=some (LM (Gw l j) l[j]):=by
    unfold Gw LM;by_cases hj0:j=0
    ·subst hj0;simp
    ·have e:(j:Int) - 1=((j - 1:Nat):Int):=by omega
     rw [if_pos (by omega),bK (by omega) (by omega),bs,e,aY (by omega),bs,if_neg hj0,List.getElem?_eq_getElem (by omega)]
   rw [hp,bs];by_cases h2:LM (Gw l j) l[j]=true
   ·rw [if_pos h2] at hE;rw [if_pos h2,hE];exact W.ret rfl
   ·rw [if_neg h2] at hE;rw [if_neg h2,bK (by omega) (by omega),bs];exact ih (q - 1) ((j:Int)+1) (by omega) ⟨j+1,rfl,by omega,by omega,by rw [hE];simp [Gw,List.getElem?_eq_getElem hlt']⟩
 obtain⟨r,e,rfl⟩:=key;unfold cK;rw [e];split
 ·rename_i h;rw [lU,h]
 ·rw [pH]
theorem oH{k:Nat}{x a b:Int}:dy k x a b=some (decide (a≤x∧x≤b)):=by
 unfold dy;by_cases h:a≤x
 ·rw [if_pos h,bs];simp [h]
 ·rw [if_neg h,bs];simp [h]
theorem qT{k:Nat}(hk:50≤k){c:ae}{l:List Int}{but:Int}(hl:l.length≤20)(hn:c.1.length≤1000):ju k c l but=some (jW (c.1.length:Int) but none l):=by
 have key:W (gQ k c l but k 0) fun r=>r=match jW (c.1.length:Int) but none l with |0=>.ok () |e=>.error e:=by
  refine W.loop (f:=gQ k c l but) (fun q y=>∃j:Nat,y=(j:Int)∧j≤l.length∧q=l.length - j∧jW (c.1.length:Int) but none l=jW (c.1.length:Int) but (Gw l j) (l.drop j)) ?_ l.length k 0 (by omega) ⟨0,rfl,by omega,by omega,by simp [Gw]⟩;rintro aH q y ⟨j,hj,hle,hq,hE⟩ ih;subst hj;unfold gQ
  refine W.ite (fun hlt=>?_) (fun hge=>W.ret (by
   have:j=l.length:=by omega
   subst this;rw [hE,List.drop_length];rfl))
  have hlt':j < l.length:=by omega
  have hdr:l.drop j=l[j]::l.drop (j+1):=List.drop_eq_getElem_cons hlt';rw [hdr,jW] at hE;rw [aY hlt',bs,bK (by omega) (by omega),bs,oH,bs];simp only [bs]
  have hb:(if¬decide (0≤l[j]∧l[j]≤(c.1.length:Int) - 1)=true then some true else some (decide (l[j]=but)))=some (decide (¬(0≤l[j]∧l[j]≤(c.1.length:Int) - 1)∨l[j]=but)):=by
   by_cases h:0≤l[j]∧l[j]≤(c.1.length:Int) - 1 <;> simp [h]
  rw [hb,bs];by_cases h1:¬(0≤l[j]∧l[j]≤(c.1.length:Int) - 1)∨l[j]=but
  ·rw [if_pos h1] at hE;rw [decide_eq_true h1,if_pos rfl,hE];exact W.ret rfl
  ·rw [if_neg h1] at hE;rw [decide_eq_false h1,if_neg (by decide)]
   have hp:(if(0:Int) < (j:Int) then((ck ((j:Int) - 1)).bind fun x15=>(aL l x15).bind fun x16=>some (decide (l[j]≤x16))) else some false)=some (LM (Gw l j) l[j]):=by
    unfold Gw LM;by_cases hj0:j=0
    ·subst hj0;simp
    ·have e:(j:Int) - 1=((j - 1:Nat):Int):=by omega
     rw [if_pos (by omega),bK (by omega) (by omega),bs,e,aY (by omega),bs,if_neg hj0,List.getElem?_eq_getElem (by omega)]
   rw [hp,bs];by_cases h2:LM (Gw l j) l[j]=true
   ·rw [if_pos h2] at hE;rw [if_pos h2,hE];exact W.ret rfl
   ·rw [if_neg h2] at hE;rw [if_neg h2,bK (by omega) (by omega),bs];exact ih (q - 1) ((j:Int)+1) (by omega) ⟨j+1,rfl,by omega,by omega,by rw [hE];simp [Gw,List.getElem?_eq_getElem hlt']⟩
 obtain⟨r,e,rfl⟩:=key;unfold ju;rw [e];split
 ·rename_i h;rw [lU,h]
 ·rw [pH]
def CG(n:Int)(i:Nat)(t:bp):Int:=
 if¬jW n (i:Int) none t.1=0 then jW n (i:Int) none t.1 else if¬(1≤t.2.1∧t.2.1≤4)∨¬(1≤t.2.2.1∧t.2.2.1≤4) then 1 else if¬(0≤t.2.2.2.1∧t.2.2.2.1≤2) then 8 else if¬(0≤t.2.2.2.2∧t.2.2.2.2≤30) then 1 else 0
def Ci(n:Int)(_:Nat)(d:ax):Int:=
 if¬jW n (-1) none d.1=0 then jW n (-1) none d.1 else if¬(0≤d.2.1∧d.2.1≤2) then 8 else if¬(0≤d.2.2∧d.2.2≤9) then 1 else 0
def kh{α:Type}(f:Nat→α→Int):Nat→List α→Int
 |_,[]=>0
 |j,x::l=>if¬f j x=0 then f j x else kh f (j+1) l
theorem oJ{α:Type}{f:Nat→α→Int}:∀{l:List α} {j:Nat},kh f j l=0↔∀i x,l[i]? =some x→f (j+i) x=0
 |[],j=>by simp [kh]
 |x::l,j=>by
  rw [kh]
  by_cases h:f j x=0
  ·
   rw [if_neg (by simp [h]),oJ]
   constructor
   ·
    intro h' i y hy
    cases i with
    |zero=>simp at hy;subst hy;exact h
    |succ i=>have:=h' i y (by simpa using hy);rw [show j+(i+1)=j+1+i by omega];exact this
   ·
    intro h' i y hy
    have:=h' (i+1) y (by simpa using hy)
    rw [show j+1+i=j+(i+1) by omega];exact this
  ·
   rw [if_pos h]
   exact⟨fun h'=>absurd h' h,fun h'=>absurd (h' 0 x rfl) h⟩
theorem rl{α:Type}{f:Nat→Int→Option (Except Int Unit)}{l:List α}{g:Nat→α→Int}(step:∀n (j:Nat) (h:j < l.length),f (n+1) (j:Int)=if¬g j l[j]=0 then some (.error (g j l[j])) else f n ((j:Int)+1))(stop:∀n,f (n+1) (l.length:Int)=some (.ok ())){n:Nat}(hn:l.length < n):
 f n 0=some (if kh g 0 l=0 then .ok () else .error (kh g 0 l)):=by
 have key:=mV (f:=f) l (fun(_:Unit) j=>j) (fun _ j x=>if¬g j x=0 then Except.error (g j x) else .ok ()) (fun _ _=>True) (fun r=>some r)
  (fun n s j h _=>by
   rw [step n j h];by_cases hg:g j l[j]=0
   ·simp [hg]
   ·simp [hg]) (fun n s _=>stop n) (n:=n) (s0:=()) hn trivial
 have:∀(l:List α) (j:Nat),lH (fun(_:Unit) j x=>if¬g j x=0 then Except.error (g j x) else .ok ()) j l ()=if kh g j l=0 then .ok () else .error (kh g j l):=by
  intro l
  induction l with
  |nil=>intro j;simp [lH,kh]
  |cons x l ih=>
   intro j;rw [lH,kh];by_cases hg:g j x=0
   ·rw [if_neg (by simp [hg])];simp only;rw [ih];simp [hg]
   ·rw [if_pos hg];simp [hg]
 rw [this] at key
 exact key
structure iZ(c:ae):Prop where
 things:c.1.length≤20
 dressers:c.2.1.length≤20
 wears:c.2.2.1.length≤20
 wants:c.2.2.2.length≤20
 over:∀t∈c.1,t.1.length≤20
 can:∀d∈c.2.1,d.1.length≤20
theorem IC{k:Nat}(hk:50≤k){c:ae}(hs:iZ c):ce k c k 0=some (if kh (CG (c.1.length:Int)) 0 c.1=0 then .ok () else .error (kh (CG (c.1.length:Int)) 0 c.1)):=by
 have h1:=hs.things;refine rl (fun n j h=>?_) (fun n=>by simp [ce]) (by omega);have h2:=hs.over _ (List.getElem_mem h);have hck:ck ((j:Int)+1)=some ((j:Int)+1):=bK (by omega) (by omega);rw [ce,if_pos (by omega),aY h,bs,mN hk h2 (by omega)];simp only [bs,qi,hck];unfold CG;generalize c.1[j]=t;by_cases a1:jW (c.1.length:Int) (j:Int) none t.1=0
 ·by_cases a2:1≤t.2.1∧t.2.1≤4 <;> by_cases a3:1≤t.2.2.1∧t.2.2.1≤4 <;> by_cases a4:0≤t.2.2.2.1∧t.2.2.2.1≤2 <;> by_cases a5:0≤t.2.2.2.2∧t.2.2.2.2≤30 <;> simp [a1,a2,a3,a4,a5]
 ·simp [a1]
theorem G0{k:Nat}(hk:50≤k){c:ae}(hs:iZ c):iR k c k 0=some (if kh (CG (c.1.length:Int)) 0 c.1=0 then .ok () else .error (kh (CG (c.1.length:Int)) 0 c.1)):=by
 have h1:=hs.things;refine rl (fun n j h=>?_) (fun n=>by simp [iR]) (by omega);have h2:=hs.over _ (List.getElem_mem h);have hck:ck ((j:Int)+1)=some ((j:Int)+1):=bK (by omega) (by omega);rw [iR,if_pos (by omega),aY h,bs,qT hk h2 (by omega)];simp only [bs,oH,hck];unfold CG;generalize c.1[j]=t;by_cases a1:jW (c.1.length:Int) (j:Int) none t.1=0
 ·by_cases a2:1≤t.2.1∧t.2.1≤4 <;> by_cases a3:1≤t.2.2.1∧t.2.2.1≤4 <;> by_cases a4:0≤t.2.2.2.1∧t.2.2.2.1≤2 <;> by_cases a5:0≤t.2.2.2.2∧t.2.2.2.2≤30 <;> simp [a1,a2,a3,a4,a5]
 ·simp [a1]
theorem ID{k:Nat}(hk:50≤k){c:ae}(hs:iZ c):eO k c k 0=some (if kh (Ci (c.1.length:Int)) 0 c.2.1=0 then .ok () else .error (kh (Ci (c.1.length:Int)) 0 c.2.1)):=by
 have h1:=hs.dressers;have h3:=hs.things;refine rl (fun n j h=>?_) (fun n=>by simp [eO]) (by omega);have h2:=hs.can _ (List.getElem_mem h);have hck:ck ((j:Int)+1)=some ((j:Int)+1):=bK (by omega) (by omega);rw [eO,if_pos (by omega),aY h,bs,mN hk h2 (by omega)];simp only [bs,qi,hck];unfold Ci;generalize c.2.1[j]=t;by_cases a1:jW (c.1.length:Int) (-1) none t.1=0
 ·by_cases a4:0≤t.2.1∧t.2.1≤2 <;> by_cases a5:0≤t.2.2∧t.2.2≤9 <;> simp [a1,a4,a5]
 ·simp [a1]
theorem G1{k:Nat}(hk:50≤k){c:ae}(hs:iZ c):iQ k c k 0=some (if kh (Ci (c.1.length:Int)) 0 c.2.1=0 then .ok () else .error (kh (Ci (c.1.length:Int)) 0 c.2.1)):=by
 have h1:=hs.dressers;have h3:=hs.things;refine rl (fun n j h=>?_) (fun n=>by simp [iQ]) (by omega);have h2:=hs.can _ (List.getElem_mem h);have hck:ck ((j:Int)+1)=some ((j:Int)+1):=bK (by omega) (by omega);rw [iQ,if_pos (by omega),aY h,bs,qT hk h2 (by omega)];simp only [bs,oH,hck];unfold Ci;generalize c.2.1[j]=t;by_cases a1:jW (c.1.length:Int) (-1) none t.1=0
 ·by_cases a4:0≤t.2.1∧t.2.1≤2 <;> by_cases a5:0≤t.2.2∧t.2.2≤9 <;> simp [a1,a4,a5]
 ·simp [a1]
def IT(c:ae)(i j:Nat):Prop:=∃t,c.1[i]? =some t∧(j:Int)∈t.1
inductive lF(c:ae):Nat→Nat→Prop where
 |one {i j:Nat}:IT c i j→lF c i j
 |cons {i k j:Nat}:IT c i k→lF c k j→lF c i j
theorem lF.lt{c:ae}{i j:Nat}(h:lF c i j):i < c.1.length:=by
 cases h with
 |one h=>obtain⟨t,h,_⟩:=h;exact(List.getElem?_eq_some_iff.1 h).1
 |cons h _=>obtain⟨t,h,_⟩:=h;exact(List.getElem?_eq_some_iff.1 h).1
theorem lF.snoc{c:ae}{i k j:Nat}(h:lF c i k)(h':IT c k j):lF c i j:=by
 induction h with
 |one h=>exact .cons h (.one h')
 |cons h _ ih=>exact .cons h (ih h')
structure tZ(c:ae):Prop where
 n:1≤c.1.length∧c.1.length≤4
 rng:∀t∈c.1,(∀x∈t.1,0≤x∧x < (c.1.length:Int))∧t.1.length≤20
structure Jv(c:ae)(ab:List Int):Prop where
 len:ab.length=4
 mask:∀(i:Nat) s,ab[i]? =some s→jr s
 sound:∀(i:Nat) s x,ab[i]? =some s→cu s x→lF c i x
abbrev oh(ab:List Int)(i x:Nat):Prop:=∃s,ab[i]? =some s∧cu s x
theorem Nq{k:Nat}(hk:50≤k){c:ae}(hV:tZ c){i:Nat}{t:bp}{ab0 abx:List Int}(hi:c.1[i]? =some t)(hA:Jv c ab0):
 W (cz k (abx,(i:Int)) t k (ab0,0)) fun r=>Jv c r∧(∀a x,oh ab0 a x→oh r a x)∧∀o:Nat,(o:Int)∈t.1→oh r i o∧∀x,oh ab0 o x→oh r i x:=by
 obtain⟨hrng,hl20⟩:=hV.rng t (List.mem_of_getElem? hi)
 have hn:=hV.n
 have hil:i < c.1.length:=(List.getElem?_eq_some_iff.1 hi).1
 refine W.loop (f:=cz k (abx,(i:Int)) t) (fun q y=>∃j:Nat,y.2=(j:Int)∧j≤t.1.length∧q=t.1.length - j∧Jv c y.1∧(∀a x,oh ab0 a x→oh y.1 a x)∧∀o:Nat,(o:Int)∈t.1.take j→oh y.1 i o∧∀x,oh ab0 o x→oh y.1 i x) ?_ t.1.length k (ab0,0) (by omega)
  ⟨0,rfl,by omega,by omega,hA,fun _ _ h=>h,fun o h=>by simp at h⟩
 rintro aH q ⟨b,y⟩ ⟨j,hj,hle,hq,hB,hmono,hdone⟩ ih
 simp only at hj hB hmono hdone
 subst hj
 unfold cz
 dsimp only
 refine W.ite (fun hlt=>?_) (fun hge=>W.ret (by
  have:j=t.1.length:=by omega
  subst this;rw [List.take_length] at hdone;exact⟨hB,hmono,hdone⟩))
 have hlt':j < t.1.length:=by omega
 have hx:=hrng t.1[j] (List.getElem_mem hlt')
 obtain⟨o,ho⟩:∃o:Nat,t.1[j]=(o:Int):=⟨t.1[j].toNat,by omega⟩
 have hib:i < b.length:=by rw [hB.len];omega
 have hob:o < b.length:=by rw [hB.len];omega
 have hst:IT c i o:=⟨t,hi,by rw [←ho];exact List.getElem_mem hlt'⟩
 have mi:=hB.mask i _ (List.getElem?_eq_getElem hib)
 have mo:=hB.mask o _ (List.getElem?_eq_getElem hob)
 obtain⟨s,es,m3,d3⟩:=ij (k:=k) hk (l:=[(o:Int)]) (by simp) (fun x h=>by simp only [List.mem_singleton] at h;subst h;omega)
 obtain⟨m4,d4⟩:=po mo m3
 obtain⟨m5,d5⟩:=po mi m4
 rw [aY hlt',bs,ho,cO (by omega),bs,aY hib,bs,cO (by omega),bs,aY hob,bs,es,bs,bs,bK (by omega) (by omega),bs,Int.toNat_natCast]
 have hnew:∀x,cu (nF .u8 b[i] (nF .u8 b[o] s)) x↔cu b[i] x∨cu b[o] x∨x=o:=fun x=>by
  rw [d5,d4,d3];simp only [List.mem_singleton];constructor
  ·rintro(h |h |h)
   ·exact .inl h
   ·exact .inr (.inl h)
   ·exact .inr (.inr (by omega))
  ·rintro(h |h |h)
   ·exact .inl h
   ·exact .inr (.inl h)
   ·exact .inr (.inr (by omega))
 have hin:∀a x,oh (b.set i (nF .u8 b[i] (nF .u8 b[o] s))) a x↔oh b a x∨(a=i∧(cu b[o] x∨x=o)):=fun a x=>by
  unfold oh;rw [List.getElem?_set];by_cases hai:i=a
  ·subst hai;rw [if_pos rfl,if_pos hib];constructor
   ·rintro⟨s',e,h⟩;cases e;rcases(hnew x).1 h with h |h
    ·exact .inl ⟨_,List.getElem?_eq_getElem hib,h⟩
    ·exact .inr ⟨rfl,h⟩
   ·rintro(⟨s',e,h⟩ |⟨_,h⟩)
    ·rw [List.getElem?_eq_getElem hib] at e;cases e;exact⟨_,rfl,(hnew x).2 (.inl h)⟩
    ·exact⟨_,rfl,(hnew x).2 (.inr h)⟩
  ·rw [if_neg hai];exact⟨.inl,fun h=>h.elim id fun h=>absurd h.1.symm hai⟩
 refine ih (q - 1) (_,(j:Int)+1) (by omega) ⟨j+1,rfl,by omega,by omega,⟨by simpa using hB.len,fun a s' h=>?_,fun a s' x h hx'=>?_⟩,fun a x h=>(hin a x).2 (.inl (hmono a x h)),fun o' ho'=>?_⟩
 ·
  rw [List.getElem?_set] at h;by_cases hai:i=a
  ·rw [if_pos hai,if_pos hib] at h;cases h;exact m5
  ·rw [if_neg hai] at h;exact hB.mask a s' h
 ·
  rcases(hin a x).1 ⟨s',h,hx'⟩ with⟨s2,h2,h3⟩ |⟨rfl,h2 |h2⟩
  ·exact hB.sound a s2 x h2 h3
  ·exact .cons hst (hB.sound o _ x (List.getElem?_eq_getElem hob) h2)
  ·subst h2;exact .one hst
 ·
  rw [List.take_add_one,List.getElem?_eq_getElem hlt',Option.toList_some,List.mem_append,List.mem_singleton,ho] at ho';rcases ho' with ho' |ho'
  ·obtain⟨h1,h2⟩:=hdone o' ho';exact⟨(hin i o').2 (.inl h1),fun x h=>(hin i x).2 (.inl (h2 x h))⟩
  ·have:o'=o:=by omega
   subst this;refine⟨(hin i o').2 (.inr ⟨rfl,.inr rfl⟩),fun x h=>?_⟩;obtain⟨s',e,h⟩:=hmono o' x h;rw [List.getElem?_eq_getElem hob] at e;cases e;exact(hin i x).2 (.inr ⟨rfl,.inl h⟩)
theorem Nr{k:Nat}(hk:50≤k){c:ae}(hV:tZ c){ab0:List Int}(hA:Jv c ab0):
 W (cC k c k (ab0,0)) fun r=>Jv c r∧(∀a x,oh ab0 a x→oh r a x)∧∀i o,IT c i o→oh r i o∧∀x,oh ab0 o x→oh r i x:=by
 have hn:=hV.n
 refine W.loop (f:=cC k c) (fun q y=>∃j:Nat,y.2=(j:Int)∧j≤c.1.length∧q=c.1.length - j∧Jv c y.1∧(∀a x,oh ab0 a x→oh y.1 a x)∧∀i o,i < j→IT c i o→oh y.1 i o∧∀x,oh ab0 o x→oh y.1 i x) ?_ c.1.length k (ab0,0) (by omega)
  ⟨0,rfl,by omega,by omega,hA,fun _ _ h=>h,fun i o h=>by omega⟩
 rintro aH q ⟨b,y⟩ ⟨j,hj,hle,hq,hB,hmono,hdone⟩ ih
 simp only at hj hB hmono hdone
 subst hj
 unfold cC
 dsimp only
 refine W.ite (fun hlt=>?_) (fun hge=>W.ret ⟨hB,hmono,fun i o h=>hdone i o (by obtain⟨t,h,_⟩:=h;have:=(List.getElem?_eq_some_iff.1 h).1;omega) h⟩)
 have hlt':j < c.1.length:=by omega
 obtain⟨r,er,hR,hrm,hrd⟩:=Nq hk hV (abx:=b) (List.getElem?_eq_getElem hlt') hB
 rw [aY hlt',bs,er,bs,bK (by omega) (by omega),bs]
 refine ih (q - 1) (r,(j:Int)+1) (by omega) ⟨j+1,rfl,by omega,by omega,hR,fun a x h=>hrm a x (hmono a x h),fun i o hi h=>?_⟩
 by_cases hij:i=j
 ·
  subst hij;obtain⟨t,ht,ho⟩:=h;rw [List.getElem?_eq_getElem hlt'] at ht;cases ht;obtain⟨h1,h2⟩:=hrd o ho;exact⟨h1,fun x hx=>h2 x (hmono o x hx)⟩
 ·
  obtain⟨h1,h2⟩:=hdone i o (by omega) h;exact⟨hrm i o h1,fun x hx=>hrm i x (h2 x hx)⟩
def sB(ab:List Int)(x n:Nat):Nat:=(List.range n).countP fun i=>match ab[i]? with |some s=>decide (cu s x) |none=>false
theorem Eu{ab ab':List Int}{x:Nat}(h:∀i,oh ab i x→oh ab' i x):∀{n:Nat},sB ab x n≤sB ab' x n∧((∃i,i < n∧oh ab' i x∧¬oh ab i x)→sB ab x n < sB ab' x n)
 |0=>⟨by simp [sB],fun⟨i,hi,_⟩=>by omega⟩
 |n+1=>by
  obtain⟨h1,h2⟩:=Eu h (n:=n)
  have e:∀ab:List Int,sB ab x (n+1)=sB ab x n+(if(match ab[n]? with |some s=>decide (cu s x) |none=>false)=true then 1 else 0):=fun ab=>by
   unfold sB
   rw [List.range_succ,List.countP_append,List.countP_singleton]
  have hin:∀ab:List Int,(match ab[n]? with |some s=>decide (cu s x) |none=>false)=true↔oh ab n x:=fun ab=>by
   unfold oh
   cases ab[n]? with
   |none=>simp
   |some s=>simp
  have hm:=h n
  rw [e,e]
  by_cases a:oh ab n x
  ·
   rw [if_pos ((hin ab).2 a),if_pos ((hin ab').2 (hm a))]
   refine⟨by omega,fun⟨i,hi,b,d⟩=>?_⟩
   by_cases hin':i=n
   ·
    subst hin';exact absurd a d
   ·
    have:=h2 ⟨i,by omega,b,d⟩;omega
  ·
   rw [if_neg (fun h=>a ((hin ab).1 h))]
   by_cases a':oh ab' n x
   ·
    rw [if_pos ((hin ab').2 a')]
    exact⟨by omega,fun _=>by omega⟩
   ·
    rw [if_neg (fun h=>a' ((hin ab').1 h))]
    refine⟨by omega,fun⟨i,hi,b,d⟩=>?_⟩
    by_cases hin':i=n
    ·
     subst hin';exact absurd b a'
    ·
     have:=h2 ⟨i,by omega,b,d⟩;omega
theorem yO{ab:List Int}{x:Nat}:∀{n:Nat},sB ab x n≤n∧(n≤sB ab x n→∀i,i < n→oh ab i x)
 |0=>⟨by simp [sB],fun _ i hi=>by omega⟩
 |n+1=>by
  obtain⟨h1,h2⟩:=yO (ab:=ab) (x:=x) (n:=n)
  have e:sB ab x (n+1)=sB ab x n+(if(match ab[n]? with |some s=>decide (cu s x) |none=>false)=true then 1 else 0):=by
   unfold sB;rw [List.range_succ,List.countP_append,List.countP_singleton]
  have hin:(match ab[n]? with |some s=>decide (cu s x) |none=>false)=true↔oh ab n x:=by
   unfold oh;cases ab[n]? with
   |none=>simp
   |some s=>simp
  rw [e];by_cases a:oh ab n x
  ·rw [if_pos (hin.2 a)];refine⟨by omega,fun h i hi=>?_⟩;by_cases hi':i=n
   ·subst hi';exact a
   ·exact h2 (by omega) i (by omega)
  ·rw [if_neg (fun h=>a (hin.1 h))];exact⟨by omega,fun h=>by omega⟩
theorem Nu{k:Nat}(hk:50≤k){c:ae}(hV:tZ c):W (cd k c k ([0,0,0,0],0)) fun r=>Jv c r∧∀i x,lF c i x→oh r i x:=by
 have hn:=hV.n
 have h0:Jv c [0,0,0,0]:=⟨rfl,fun i s h=>by
  have:=List.mem_of_getElem? h;simp only [List.mem_cons,List.not_mem_nil,or_false,or_self] at this;subst this;exact⟨by decide,by decide⟩,fun i s x h hx=>by
  have:=List.mem_of_getElem? h;simp only [List.mem_cons,List.not_mem_nil,or_false,or_self] at this;subst this;simp [cu] at hx⟩
 refine W.loop (f:=cd k c) (fun q y=>∃j:Nat,y.2=(j:Int)∧j≤c.1.length∧q=c.1.length - j∧Jv c y.1∧∀x,(∀i,lF c i x→oh y.1 i x)∨j≤sB y.1 x c.1.length) ?_ c.1.length k _ (by omega)
  ⟨0,rfl,by omega,by omega,h0,fun x=>.inr (by omega)⟩
 rintro aH q ⟨b,y⟩ ⟨j,hj,hle,hq,hB,hor⟩ ih;simp only at hj hB hor;subst hj;unfold cd;dsimp only;refine W.ite (fun hlt=>?_) (fun hge=>W.ret ⟨hB,fun i x h=>?_⟩)
 ·obtain⟨r,er,hR,hrm,hrd⟩:=Nr hk hV hB;rw [er,bs,bK (by omega) (by omega),bs];refine ih (q - 1) (r,(j:Int)+1) (by omega) ⟨j+1,rfl,by omega,by omega,hR,fun x=>?_⟩;simp only;rcases hor x with h |h
  ·exact .inl fun i hi=>hrm i x (h i hi)
  ·by_cases hnew:∃i,i < c.1.length∧oh r i x∧¬oh b i x
   ·have:=(Eu (n:=c.1.length) (fun i=>hrm i x)).2 hnew;exact .inr (by omega)
   ·have hsame:∀i,i < c.1.length→oh r i x→oh b i x:=fun i hi h=>by
     false_or_by_contra;rename_i hb;exact hnew ⟨i,hi,h,hb⟩
    refine .inl fun i hi=>?_
    have key:∀{i z:Nat},lF c i z→z=x→oh r i x:=fun {i z} hr=>by
     induction hr with
     |one hst=>intro e;rw [←e];exact(hrd _ _ hst).1
     |cons hst h' ih'=>intro e;exact(hrd _ _ hst).2 x (hsame _ (lF.lt h') (ih' e))
    exact key hi rfl
 ·have hjn:j=c.1.length:=by omega
  subst hjn;rcases hor x with h' |h'
  ·exact h' i h
  ·exact yO.2 h' i h.lt
theorem Np{k:Nat}(hk:50≤k){c:ae}(hV:tZ c){ab:List Int}(hA:Jv c ab)(hc:∀i x,lF c i x→oh ab i x){b:Bool}(hb:b=true↔∃i,lF c i i):bq k c ab k 0=some (if b=true then .error 9 else .ok ()):=by
 have hn:=hV.n
 have step:∀m (j:Nat),j < c.1.length→(lF c j j→bq k c ab (m+1) (j:Int)=some (.error 9))∧(¬lF c j j→bq k c ab (m+1) (j:Int)=bq k c ab m ((j:Int)+1)):=fun m j hj=>by
  have hjb:j < ab.length:=by rw [hA.len];omega
  have hg:=List.getElem?_eq_getElem hjb;have hm:=hA.mask j _ hg
  have hiff:cu ab[j] j↔lF c j j:=⟨fun h=>hA.sound j _ j hg h,fun h=>by
   obtain⟨s,e,h⟩:=hc j j h;rw [hg] at e;cases e;exact h⟩
  rw [bq,if_pos (by omega),cO (by omega),bs,aY hjb,bs,wR hm (by omega),bs];constructor
  ·intro h;rw [decide_eq_true (hiff.2 h),if_pos rfl]
  ·intro h;rw [decide_eq_false (fun h'=>h (hiff.1 h')),if_neg (by decide),bK (by omega) (by omega),bs]
 cases b with
 |true=>
  obtain⟨i,hi⟩:=hb.1 rfl
  obtain⟨m,hm,hmin⟩:∃m,lF c m m∧∀j,j < m→¬lF c j j:=by
   have:∀i,lF c i i→∃m,lF c m m∧∀j,j < m→¬lF c j j:=by
    intro i
    induction i using Nat.strongRecOn with
    |_ i ih=>
     intro hi;by_cases h:∃j,j < i∧lF c j j
     ·obtain⟨j,h1,h2⟩:=h;exact ih j h1 h2
     ·exact⟨i,hi,fun j h1 h2=>h ⟨j,h1,h2⟩⟩
   exact this i hi
  rw [if_pos rfl];exact Bo c.1.length m hm.lt (fun n j hj=>(step n j (by have:=hm.lt;omega)).2 (hmin j hj)) (fun n=>(step n m hm.lt).1 hm) k (by omega)
 |false=>
  rw [if_neg (by decide)];exact zN 0 c.1.length (fun n j _ hj=>(step n j hj).2 fun h=>by have:=hb.2 ⟨j,h⟩;cases this) (fun n j _ hj=>by rw [bq,if_neg (by omega)]) k (by omega)
theorem MA{k:Nat}(hk:50≤k){c:ae}(hV:tZ c){a i:Nat}{t:bp}{ov0 ovx:List Bool}(hi:c.1[i]? =some t)(hl:ov0.length=c.1.length)(hs:∀j,In ov0 j→lF c a j)(hai:i=a∨In ov0 i):
 W (iG k c (ovx,(i:Int)) k (ov0,0)) fun r=>r.length=c.1.length∧(∀j,In r j→lF c a j)∧(∀j,In ov0 j→In r j)∧∀o,IT c i o→In r o:=by
 obtain⟨hrng,hl20⟩:=hV.rng t (List.mem_of_getElem? hi)
 have hil:i < c.1.length:=(List.getElem?_eq_some_iff.1 hi).1
 have hg:aL c.1 (i:Int)=some t:=qw (by omega) (by simpa using hi)
 have hrch:∀o:Nat,(o:Int)∈t.1→lF c a o:=fun o ho=>by
  rcases hai with rfl |h
  ·exact .one ⟨t,hi,ho⟩
  ·exact(hs i h).snoc ⟨t,hi,ho⟩
 refine W.loop (f:=iG k c (ovx,(i:Int))) (fun q y=>∃j:Nat,y.2=(j:Int)∧j≤t.1.length∧q=t.1.length - j∧y.1.length=c.1.length∧(∀j,In y.1 j→lF c a j)∧(∀j,In ov0 j→In y.1 j)∧∀o:Nat,(o:Int)∈t.1.take j→In y.1 o) ?_ t.1.length k (ov0,0) (by omega)
  ⟨0,rfl,by omega,by omega,hl,hs,fun _ h=>h,fun o h=>by simp at h⟩
 rintro aH q ⟨b,y⟩ ⟨j,hj,hle,hq,hbl,hbs,hbm,hbd⟩ ih
 simp only at hj hbl hbs hbm hbd
 subst hj
 unfold iG
 dsimp only
 rw [hg,bs]
 refine W.ite (fun hlt=>?_) (fun hge=>W.ret (by
  have:j=t.1.length:=by omega
  subst this;rw [List.take_length] at hbd;exact⟨hbl,hbs,hbm,fun o ⟨t',h1,h2⟩=>by rw [hi] at h1;cases h1;exact hbd o h2⟩))
 have hlt':j < t.1.length:=by omega
 have hx:=hrng t.1[j] (List.getElem_mem hlt')
 obtain⟨o,ho⟩:∃o:Nat,t.1[j]=(o:Int):=⟨t.1[j].toNat,by omega⟩
 have hob:o < b.length:=by omega
 rw [bs,aY hlt',bs,ho,aY hob,bs,bK (by omega) (by omega),bs,Int.toNat_natCast]
 refine ih (q - 1) (_,(j:Int)+1) (by omega) ⟨j+1,rfl,by omega,by omega,by simpa using hbl,fun x hx'=>?_,fun x h=>(lR hob).2 (.inr (hbm x h)),fun o' ho'=>?_⟩
 ·
  rcases(lR hob).1 hx' with rfl |h
  ·exact hrch _ (by rw [←ho];exact List.getElem_mem hlt')
  ·exact hbs x h
 ·
  rw [List.take_add_one,List.getElem?_eq_getElem hlt',Option.toList_some,List.mem_append,List.mem_singleton,ho] at ho';rcases ho' with h |h
  ·exact(lR hob).2 (.inr (hbd o' h))
  ·exact(lR hob).2 (.inl (by omega))
theorem MB{k:Nat}(hk:50≤k){c:ae}(hV:tZ c){a:Nat}{ov0:List Bool}(hl:ov0.length=c.1.length)(hs:∀j,In ov0 j→lF c a j):
 W (f9 k c (a:Int) k (ov0,0)) fun r=>r.length=c.1.length∧(∀j,In r j→lF c a j)∧(∀j,In ov0 j→In r j)∧∀i o,i=a∨In ov0 i→IT c i o→In r o:=by
 have hn:=hV.n
 refine W.loop (f:=f9 k c (a:Int)) (fun q y=>∃j:Nat,y.2=(j:Int)∧j≤c.1.length∧q=c.1.length - j∧y.1.length=c.1.length∧(∀j,In y.1 j→lF c a j)∧(∀j,In ov0 j→In y.1 j)∧∀i o,i < j→i=a∨In ov0 i→IT c i o→In y.1 o) ?_ c.1.length k (ov0,0) (by omega)
  ⟨0,rfl,by omega,by omega,hl,hs,fun _ h=>h,fun i o h=>by omega⟩
 rintro aH q ⟨b,y⟩ ⟨j,hj,hle,hq,hbl,hbs,hbm,hbd⟩ ih
 simp only at hj hbl hbs hbm hbd
 subst hj
 unfold f9
 dsimp only
 refine W.ite (fun hlt=>?_) (fun hge=>W.ret ⟨hbl,hbs,hbm,fun i o h1 h2=>hbd i o (by obtain⟨t,h,_⟩:=h2;have:=(List.getElem?_eq_some_iff.1 h).1;omega) h1 h2⟩)
 have hlt':j < c.1.length:=by omega
 have hjb:j < b.length:=by omega
 have hck:ck ((j:Int)+1)=some ((j:Int)+1):=bK (by omega) (by omega)
 have hIn:In b j↔b[j]=true:=by unfold In;rw [List.getElem?_eq_getElem hjb];simp
 have go:(j=a∨In b j)→W (((iG k c (b,(j:Int)) k (b,(0:Int))):Option (List Bool)).bind fun x12=>(ck ((j:Int)+(1:Int))).bind fun x24=>f9 k c (a:Int) aH (x12,x24)) fun r=>r.length=c.1.length∧(∀j,In r j→lF c a j)∧(∀j,In ov0 j→In r j)∧∀i o,i=a∨In ov0 i→IT c i o→In r o:=fun hja=>by
  obtain⟨r,er,r1,r2,r3,r4⟩:=MA hk hV (ovx:=b) (List.getElem?_eq_getElem hlt') hbl hbs hja;rw [er,bs,hck,bs];refine ih (q - 1) (r,(j:Int)+1) (by omega) ⟨j+1,rfl,by omega,by omega,r1,r2,fun x h=>r3 x (hbm x h),fun i o h1 h2 h3=>?_⟩;by_cases hij:i=j
  ·subst hij;exact r4 o h3
  ·exact r3 o (hbd i o (by omega) h2 h3)
 have skip:¬(j=a∨In b j)→W ((some b:Option (List Bool)).bind fun x12=>(ck ((j:Int)+(1:Int))).bind fun x24=>f9 k c (a:Int) aH (x12,x24)) fun r=>r.length=c.1.length∧(∀j,In r j→lF c a j)∧(∀j,In ov0 j→In r j)∧∀i o,i=a∨In ov0 i→IT c i o→In r o:=fun hja=>by
  rw [bs,hck,bs];refine ih (q - 1) (b,(j:Int)+1) (by omega) ⟨j+1,rfl,by omega,by omega,hbl,hbs,hbm,fun i o h1 h2 h3=>?_⟩;by_cases hij:i=j
  ·subst hij;exact absurd (h2.imp id (hbm i)) hja
  ·exact hbd i o (by omega) h2 h3
 by_cases hja:j=a
 ·
  rw [if_neg (by simp [hja]),bs,if_neg (by decide)];exact go (.inl hja)
 ·
  rw [if_pos (by omega),aY hjb,bs,bs];by_cases hb:b[j]=true
  ·rw [hb,if_neg (by decide)];exact go (.inr (hIn.2 hb))
  ·rw [if_pos (by simpa using hb)];exact skip (fun h=>h.elim hja fun h=>hb (hIn.1 h))
theorem Et{l l':List Bool}:l.length=l'.length→(∀j,In l j→In l' j)→nn l≤nn l'∧((∃j,In l' j∧¬In l j)→nn l < nn l'):=by
 induction l generalizing l' with
 |nil=>
  intro hl _;cases l' with
  |nil=>exact⟨Nat.le_refl _,fun⟨j,h,_⟩=>by simp [In] at h⟩
  |cons=>simp at hl
 |cons x l ih=>
  intro hl hm;cases l' with
  |nil=>simp at hl
  |cons y l'=>
   obtain⟨h1,h2⟩:=ih (l':=l') (by simpa using hl) (fun j h=>by have:=hm (j+1) (by simpa [In] using h);simpa [In] using this);have h0:x=true→y=true:=fun h=>by have:=hm 0 (by simp [In,h]);simpa [In] using this
   simp only [nn,List.count_cons] at h1 h2⊢;cases x <;> cases y
   ·refine⟨by simpa using h1,fun⟨j,a,b⟩=>?_⟩;cases j with
    |zero=>simp [In] at a
    |succ j=>have:=h2 ⟨j,by simpa [In] using a,by simpa [In] using b⟩;simpa using this
   ·exact⟨by simp;omega,fun _=>by simp;omega⟩
   ·have:=h0 rfl;cases this
   ·refine⟨by simpa using h1,fun⟨j,a,b⟩=>?_⟩;cases j with
    |zero=>simp [In] at b
    |succ j=>have:=h2 ⟨j,by simpa [In] using a,by simpa [In] using b⟩;simpa using this
theorem FX{l:List Bool}(h:l.length≤nn l):∀j,j < l.length→In l j:=by
 induction l with
 |nil=>intro j hj;simp at hj
 |cons x l ih=>
  have hle:nn l≤l.length:=List.count_le_length;simp only [nn,List.count_cons,List.length_cons] at h hle ih;cases x with
  |false=>simp at h;omega
  |true=>
   intro j hj;cases j with
   |zero=>simp [In]
   |succ j=>have:=ih (by simp at h;omega) j (by simpa using hj);simpa [In] using this
theorem JH{k:Nat}(hk:50≤k){c:ae}(hV:tZ c){a:Nat}(ha:a < c.1.length):W (qg k c (a:Int)) fun r=>(r=true↔lF c a a):=by
 have hn:=hV.n;unfold qg;rw [cO ⟨by omega,bH (by omega)⟩,bs,Int.toNat_natCast]
 have key:W (jv k c (a:Int) k (List.replicate c.1.length false,(0:Int))) fun r=>r.length=c.1.length∧∀j,In r j↔lF c a j:=by
  refine W.loop (f:=jv k c (a:Int)) (fun q y=>∃j:Nat,y.2=(j:Int)∧j≤c.1.length∧q=c.1.length - j∧y.1.length=c.1.length∧(∀x,In y.1 x→lF c a x)∧((∀x,x < c.1.length→lF c a x→In y.1 x)∨j≤nn y.1)) ?_ c.1.length k _ (by omega)
   ⟨0,rfl,by omega,by omega,by simp,fun x h=>(by
    exfalso;have h:(List.replicate c.1.length false)[x]? =some true:=h;rw [List.getElem?_replicate] at h;split at h <;> cases h),.inr (by omega)⟩
  rintro aH q ⟨b,y⟩ ⟨j,hj,hle,hq,hbl,hbs,hor⟩ ih;simp only at hj hbl hbs hor;subst hj
  have hlt:∀x,lF c a x→x < c.1.length:=fun x h=>by
   have key:∀{i z:Nat},lF c i z→z < c.1.length:=fun {i z} hr=>by
    induction hr with
    |one h=>
     obtain⟨t,h1,h2⟩:=h;have:=(hV.rng t (List.mem_of_getElem? h1)).1 _ h2;omega
    |cons _ _ ih=>exact ih
   exact key h
  unfold jv;dsimp only;refine W.ite (fun hlt2=>?_) (fun hge=>W.ret ⟨hbl,fun x=>⟨hbs x,fun h=>?_⟩⟩)
  ·obtain⟨r,er,r1,r2,r3,r4⟩:=MB hk hV hbl hbs;rw [er,bs,bK (by omega) (by omega),bs];refine ih (q - 1) (r,(j:Int)+1) (by omega) ⟨j+1,rfl,by omega,by omega,r1,r2,?_⟩;simp only;rcases hor with h |h
   ·exact .inl fun x hx hr=>r3 x (h x hx hr)
   ·by_cases hnew:∃x,In r x∧¬In b x
    ·have:=(Et (by rw [hbl,r1]) r3).2 hnew;exact .inr (by omega)
    ·have hsame:∀x,In r x→In b x:=fun x h=>by
      false_or_by_contra;rename_i hb;exact hnew ⟨x,h,hb⟩
     refine .inl fun x _ hr=>?_
     have key:∀{i z:Nat},lF c i z→(i=a∨In b i)→In r z:=fun {i z} hr=>by
      induction hr with
      |one h=>intro hi;exact r4 _ _ hi h
      |cons h _ ih'=>intro hi;exact ih' (.inr (hsame _ (r4 _ _ hi h)))
     exact key hr (.inl rfl)
  ·have hjn:j=c.1.length:=by omega
   rcases hor with h' |h'
   ·exact h' x (hlt x h) h
   ·exact FX (by omega) x (by have:=hlt x h;omega)
 obtain⟨r,er,r1,r2⟩:=key;have hal:a < r.length:=by omega
 rw [er,bs,aY hal,bs];refine W.ret ?_;rw [←r2 a];unfold In;rw [List.getElem?_eq_getElem hal];simp
theorem NW{k:Nat}(hk:50≤k){c:ae}(hV:tZ c){b:Bool}(hb:b=true↔∃i,lF c i i):eM k c k 0=some (if b=true then .error 9 else .ok ()):=by
 have hn:=hV.n
 have step:∀m (j:Nat),j < c.1.length→(lF c j j→eM k c (m+1) (j:Int)=some (.error 9))∧(¬lF c j j→eM k c (m+1) (j:Int)=eM k c m ((j:Int)+1)):=fun m j hj=>by
  obtain⟨r,er,hr⟩:=JH hk hV hj;rw [eM,if_pos (by omega),er,bs];constructor
  ·intro h;rw [if_pos (hr.2 h)]
  ·intro h;rw [if_neg (fun h'=>h (hr.1 h')),bK (by omega) (by omega),bs]
 cases b with
 |true=>
  obtain⟨i,hi⟩:=hb.1 rfl
  obtain⟨m,hm,hmin⟩:∃m,lF c m m∧∀j,j < m→¬lF c j j:=by
   have:∀i,lF c i i→∃m,lF c m m∧∀j,j < m→¬lF c j j:=by
    intro i
    induction i using Nat.strongRecOn with
    |_ i ih=>
     intro hi;by_cases h:∃j,j < i∧lF c j j
     ·obtain⟨j,h1,h2⟩:=h;exact ih j h1 h2
     ·exact⟨i,hi,fun j h1 h2=>h ⟨j,h1,h2⟩⟩
   exact this i hi
  rw [if_pos rfl];exact Bo c.1.length m hm.lt (fun n j hj=>(step n j (by have:=hm.lt;omega)).2 (hmin j hj)) (fun n=>(step n m hm.lt).1 hm) k (by omega)
 |false=>
  rw [if_neg (by decide)];exact zN 0 c.1.length (fun n j _ hj=>(step n j hj).2 fun h=>by have:=hb.2 ⟨j,h⟩;cases this) (fun n j _ hj=>by rw [eM,if_neg (by omega)]) k (by omega)
def xN(n m:Nat):Int:=if n=0 then 7 else if m < n then 6 else 0
def sD(c:ae)(ring:Bool):Int:=
 if¬xN c.1.length 4=0 then xN c.1.length 4 else if¬kh (CG (c.1.length:Int)) 0 c.1=0 then kh (CG (c.1.length:Int)) 0 c.1 else if ring=true then 9
 else if¬xN c.2.1.length 3=0 then xN c.2.1.length 3 else if¬kh (Ci (c.1.length:Int)) 0 c.2.1=0 then kh (Ci (c.1.length:Int)) 0 c.2.1
 else if¬jW (c.1.length:Int) (-1) none c.2.2.1=0 then jW (c.1.length:Int) (-1) none c.2.2.1 else jW (c.1.length:Int) (-1) none c.2.2.2
theorem GT{k n m:Nat}:iw k (n:Int) (m:Int)=some (xN n m):=by
 unfold iw xN;by_cases h:n=0
 ·subst h;simp
 ·rw [if_neg (by omega),if_neg h];by_cases h2:m < n
  ·rw [if_pos (by omega),if_pos h2]
  ·rw [if_neg (by omega),if_neg h2]
theorem E7{k n m:Nat}:mR k (n:Int) (m:Int)=some (xN n m):=by
 unfold mR xN;by_cases h:n=0
 ·subst h;simp
 ·rw [if_neg (by omega),if_neg h];by_cases h2:m < n
  ·rw [if_pos (by omega),if_pos h2]
  ·rw [if_neg (by omega),if_neg h2]
theorem vW{n m:Nat}:xN n m=0↔1≤n∧n≤m:=by
 unfold xN;split
 ·simp;omega
 ·split
  ·simp;omega
  ·simp;omega
theorem AN{c:ae}(hs:iZ c)(h1:xN c.1.length 4=0)(h2:kh (CG (c.1.length:Int)) 0 c.1=0):tZ c:=by
 refine⟨vW.1 h1,fun t ht=>⟨fun x hx=>?_,hs.over t ht⟩⟩;obtain⟨i,hi⟩:=List.mem_iff_getElem?.1 ht;have:=oJ.1 h2 i t hi;unfold CG at this;by_cases a1:jW (c.1.length:Int) ((0+i:Nat):Int) none t.1=0
 ·have:=(oC.1 a1).1 x hx;exact⟨this.1,this.2.1⟩
 ·rw [if_pos a1] at this;exact absurd this a1
theorem qJ{k:Nat}(hk:50≤k){c:ae}(hs:iZ c){b:Bool}(hb:b=true↔∃i,lF c i i):jQ k c=some (sD c b):=by
 have h1:=hs.things;unfold jQ f7 sD;rw [show(4:Int)=((4:Nat):Int) from rfl,show(3:Int)=((3:Nat):Int) from rfl];simp only [GT,bs,IC hk hs,ID hk hs,mN hk hs.wears (n:=(c.1.length:Int)) (but:= -1) (by omega),mN hk hs.wants (n:=(c.1.length:Int)) (but:= -1) (by omega)];by_cases z1:xN c.1.length 4=0
 ·by_cases z2:kh (CG (c.1.length:Int)) 0 c.1=0
  ·have hV:=AN hs z1 z2;obtain⟨ab,eab,hA,hc⟩:=Nu hk hV;simp only [z1,z2,not_true_eq_false,if_false,if_true,lU,eab,bs,Np hk hV hA hc hb];cases b with
   |true=>simp [pH]
   |false=>
    simp only [Bool.false_eq_true,if_false,lU,bs,not_true_eq_false];by_cases z3:xN c.2.1.length 3=0
    ·by_cases z4:kh (Ci (c.1.length:Int)) 0 c.2.1=0
     ·simp only [z3,z4,not_true_eq_false,if_false,if_true,lU];by_cases z5:jW (c.1.length:Int) (-1) none c.2.2.1=0 <;> simp [z5]
     ·simp only [z3,z4,not_true_eq_false,not_false_eq_true,if_false,if_true,pH]
    ·simp [z3]
  ·simp only [z1,z2,not_true_eq_false,not_false_eq_true,if_false,if_true,pH,bs]
 ·simp [z1,bs]
theorem AD{k:Nat}(hk:50≤k){c:ae}(hs:iZ c){b:Bool}(hb:b=true↔∃i,lF c i i):ov k c=some (sD c b):=by
 have h1:=hs.things;unfold ov sD;rw [show(4:Int)=((4:Nat):Int) from rfl,show(3:Int)=((3:Nat):Int) from rfl];simp only [E7,bs,G0 hk hs,G1 hk hs,qT hk hs.wears (c:=c) (but:= -1) (by omega),qT hk hs.wants (c:=c) (but:= -1) (by omega)];by_cases z1:xN c.1.length 4=0
 ·by_cases z2:kh (CG (c.1.length:Int)) 0 c.1=0
  ·have hV:=AN hs z1 z2;simp only [z1,z2,not_true_eq_false,if_false,if_true,lU,bs,NW hk hV hb];cases b with
   |true=>simp [pH]
   |false=>
    simp only [Bool.false_eq_true,if_false,lU];by_cases z3:xN c.2.1.length 3=0
    ·by_cases z4:kh (Ci (c.1.length:Int)) 0 c.2.1=0
     ·simp only [z3,z4,not_true_eq_false,if_false,if_true,lU];by_cases z5:jW (c.1.length:Int) (-1) none c.2.2.1=0 <;> simp [z5]
     ·simp only [z3,z4,not_true_eq_false,not_false_eq_true,if_false,if_true,pH]
    ·simp [z3]
  ·simp only [z1,z2,not_true_eq_false,not_false_eq_true,if_false,if_true,pH]
 ·simp [z1]
theorem ug{c:ae}(hs:iZ c){b:Bool}(hb:b=true↔∃i,lF c i i)(h:sD c b=0):VC (c.1.length:Int) c:=by
 have hchk:∀k,50≤k→jQ k c=some 0:=fun k hk=>by rw [qJ hk hs hb,h]
 unfold sD at h;by_cases z1:xN c.1.length 4=0
 ·rw [if_neg (by simp [z1])] at h;by_cases z2:kh (CG (c.1.length:Int)) 0 c.1=0
  ·rw [if_neg (by simp [z2])] at h;cases b with
   |true=>rw [if_pos rfl] at h;cases h
   |false=>
    rw [if_neg (by decide)] at h;by_cases z3:xN c.2.1.length 3=0
    ·rw [if_neg (by simp [z3])] at h;by_cases z4:kh (Ci (c.1.length:Int)) 0 c.2.1=0
     ·rw [if_neg (by simp [z4])] at h;by_cases z5:jW (c.1.length:Int) (-1) none c.2.2.1=0
      ·rw [if_neg (by simp [z5])] at h;have hz1:=vW.1 z1
       have asc:∀{l:List Int} {but:Int},jW (c.1.length:Int) but none l=0→lD l (c.1.length:Int):=fun h=>by
        obtain⟨a,b,_⟩:=oC.1 h;exact⟨b,fun x hx=>⟨(a x hx).1,(a x hx).2.1⟩⟩
       refine⟨by omega,rfl,fun j t ht=>?_,asc z5,asc h,fun x hx=>?_,vW.1 z3,hchk⟩
       ·have:=oJ.1 z2 j t ht;unfold CG at this;rw [Nat.zero_add] at this;by_cases a1:jW (c.1.length:Int) (j:Int) none t.1=0
        ·rw [if_neg (by simp [a1])] at this;by_cases a2:¬(1≤t.2.1∧t.2.1≤4)∨¬(1≤t.2.2.1∧t.2.2.1≤4)
         ·rw [if_pos a2] at this;cases this
         ·rw [if_neg a2] at this;by_cases a3:¬(0≤t.2.2.2.1∧t.2.2.2.1≤2)
          ·rw [if_pos a3] at this;cases this
          ·rw [if_neg a3] at this;by_cases a4:¬(0≤t.2.2.2.2∧t.2.2.2.2≤30)
           ·rw [if_pos a4] at this;cases this
           ·exact⟨asc a1,fun hj=>((oC.1 a1).1 _ hj).2.2 rfl,by omega,by omega,by omega,by omega⟩
        ·rw [if_pos a1] at this;exact absurd this a1
       ·obtain⟨j,hj⟩:=List.mem_iff_getElem?.1 hx;have:=oJ.1 z4 j x hj;unfold Ci at this;by_cases a1:jW (c.1.length:Int) (-1) none x.1=0
        ·rw [if_neg (by simp [a1])] at this;by_cases a3:¬(0≤x.2.1∧x.2.1≤2)
         ·rw [if_pos a3] at this;cases this
         ·rw [if_neg a3] at this;by_cases a4:¬(0≤x.2.2∧x.2.2≤9)
          ·rw [if_pos a4] at this;cases this
          ·exact⟨asc a1,by omega,by omega⟩
        ·rw [if_pos a1] at this;exact absurd this a1
      ·rw [if_pos z5] at h;exact absurd h z5
     ·rw [if_pos z4] at h;exact absurd h z4
    ·rw [if_pos z3] at h;exact absurd h z3
  ·rw [if_pos z2] at h;exact absurd h z2
 ·rw [if_pos z1] at h;exact absurd h z1
theorem iO{k:Nat}{l:List Int}{x:Int}(h:l.length < k)(hk:l.length≤1000000):g9 k l x=some (decide (x∈l)):=by
 have key:=mV (f:=jw k l x) l (fun(_:Unit) j=>j) (fun _ _ y=>if y=x then Except.error true else .ok ()) (fun _ _=>True) (fun r=>some r)
  (fun n s j h _=>by
   simp (disch:=omega) only [jw,Int.ofNat_lt,h,if_true,aY h,bs,bK];by_cases hx:l[j]=x <;> simp [hx]) (fun n s _=>by simp [jw]) (n:=k) (s0:=()) h trivial
 unfold g9;rw [show jw k l x k 0=_ from key]
 have:∀(l:List Int) (j:Nat),lH (fun(_:Unit) _ y=>if y=x then Except.error true else .ok ()) j l ()=if x∈l then .error true else .ok ():=by
  intro l
  induction l with
  |nil=>intro j;simp [lH]
  |cons y l ih=>
   intro j;by_cases hy:y=x
   ·simp [lH,hy]
   ·rw [lH,if_neg hy];simp only;rw [ih (j+1)];simp [List.mem_cons,Ne.symm hy]
 rw [this];by_cases hm:x∈l
 ·rw [if_pos hm,pH,decide_eq_true hm]
 ·rw [if_neg hm,lU,decide_eq_false hm]
structure yZ(c:ae)(mv0 mv:List Bool):Prop where
 len:mv.length=c.1.length
 mono:∀i,In mv0 i→In mv i
 sound:∀C,uY c C→(∀i,In mv0 i→C i)→∀i,In mv i→C i
theorem JJ{k:Nat}(hk:50≤k){n:Int}{c:ae}(hc:VC n c){mv0 mvx:List Bool}{i:Nat}(hi:i < c.1.length){b1 b2:Bool}(h1:b1=true↔(i:Int)∈c.2.2.1)(h2:b2=true↔(i:Int)∈c.2.2.2)(hl:mv0.length=c.1.length):
 W (fL k c (mvx,(i:Int)) b1 b2 k (mv0,0)) fun r=>yZ c mv0 r∧(((i:Int)∈c.2.2.1∧(i:Int)∈c.2.2.2∧∃(q:Nat) (t:bp),c.1[q]? =some t∧In mv0 q∧(i:Int)∈t.1)→In r i):=by
 obtain⟨w1,w2,w3,w4,_⟩:=hc.wl
 refine W.loop (f:=fL k c (mvx,(i:Int)) b1 b2) (fun m y=>∃j:Nat,y.2=(j:Int)∧j≤c.1.length∧m=c.1.length - j∧yZ c mv0 y.1∧(((i:Int)∈c.2.2.1∧(i:Int)∈c.2.2.2∧∃(q:Nat) (t:bp),q < j∧c.1[q]? =some t∧In mv0 q∧(i:Int)∈t.1)→In y.1 i)) ?_ c.1.length k (mv0,0) (by omega)
  ⟨0,rfl,by omega,by omega,⟨hl,fun _ h=>h,fun _ _ h=>h⟩,fun⟨_,_,q,t,h,_⟩=>by omega⟩
 rintro aH m ⟨mv,y⟩ ⟨j,hj,hle,hm,hP,hd⟩ ih
 simp only at hj hP hd
 subst hj
 have o1:j < c.1.length→m - 1 < m∧m - 1=c.1.length - (j+1)∧j+1≤c.1.length:=by clear hd ih;omega
 have hck:ck ((j:Int)+1)=some ((j:Int)+1):=bK (by clear hd ih;omega) (by clear hd ih;omega)
 unfold fL
 dsimp only
 have fin:¬((j:Int) < (c.1.length:Int)∧(i:Int)∈c.2.2.1∧(i:Int)∈c.2.2.2)→W (some mv) fun r=>yZ c mv0 r∧(((i:Int)∈c.2.2.1∧(i:Int)∈c.2.2.2∧∃(q:Nat) (t:bp),c.1[q]? =some t∧In mv0 q∧(i:Int)∈t.1)→In r i):=fun hn=>
  W.ret ⟨hP,fun⟨a,b,q,t,h3,h4,h5⟩=>hd ⟨a,b,q,t,by
   have:=(List.getElem?_eq_some_iff.1 h3).1;false_or_by_contra;exact hn ⟨by clear hd ih;omega,a,b⟩,h3,h4,h5⟩⟩
 by_cases hlt:(j:Int) < (c.1.length:Int)
 ·
  rw [if_pos hlt];by_cases hw:(i:Int)∈c.2.2.1
  ·rw [if_pos (h1.2 hw),bs];by_cases hv:(i:Int)∈c.2.2.2
   ·rw [if_pos (h2.2 hv)];have hlt':j < c.1.length:=by clear hd ih;omega
    have hjm:j < mv.length:=by rw [hP.len];exact hlt'
    have him:i < mv.length:=by rw [hP.len];exact hi
    have hIn:In mv j↔mv[j]=true:=by unfold In;rw [List.getElem?_eq_getElem hjm];simp
    have hb:((aL mv (j:Int)).bind fun x27=>if x27=true then((aL c.1 (j:Int)).bind fun x28=>(g9 k x28.1 (i:Int)).bind fun r29=>some r29) else(some false))=some (decide (In mv j∧(i:Int)∈c.1[j].1)):=by
     rw [aY hjm,bs];by_cases hmj:mv[j]=true
     ·have hl4:=w4 _ (List.getElem_mem hlt');rw [if_pos hmj,aY hlt',bs,iO (by clear hd ih;omega) (by clear hd ih;omega),bs];have e:decide ((i:Int)∈c.1[j].1)=decide (In mv j∧(i:Int)∈c.1[j].1):=decide_eq_decide.2 ⟨fun h=>⟨hIn.2 hmj,h⟩,fun h=>h.2⟩;rw [e]
     ·rw [if_neg hmj,decide_eq_false (fun h=>hmj (hIn.1 h.1))]
    rw [hb,bs];by_cases hx:In mv j∧(i:Int)∈c.1[j].1
    ·rw [decide_eq_true hx,if_pos rfl,aY him,bs,bs,hck,bs,Int.toNat_natCast];refine ih (m - 1) (_,(j:Int)+1) (o1 hlt').1 ⟨j+1,rfl,(o1 hlt').2.2,(o1 hlt').2.1,⟨by simpa using hP.len,fun x h=>(lR him).2 (.inr (hP.mono x h)),fun C hC h0 x h=>?_⟩,fun _=>(lR him).2 (.inl rfl)⟩;rcases(lR him).1 h with rfl |h
     ·exact hC _ hi (.inr ⟨hw,hv,j,_,List.getElem?_eq_getElem hlt',hP.sound C hC h0 j hx.1,hx.2⟩)
     ·exact hP.sound C hC h0 x h
    ·rw [decide_eq_false hx,if_neg (by decide),bs,hck,bs];refine ih (m - 1) (mv,(j:Int)+1) (o1 hlt').1 ⟨j+1,rfl,(o1 hlt').2.2,(o1 hlt').2.1,hP,fun⟨a,b,q,t,g1,g2,g3,g4⟩=>?_⟩;by_cases hqj:q=j
     ·subst hqj;rw [List.getElem?_eq_getElem hlt'] at g2;cases g2;exact absurd ⟨hP.mono _ g3,g4⟩ hx
     ·exact hd ⟨a,b,q,t,by clear hd ih;omega,g2,g3,g4⟩
   ·rw [if_neg (fun h=>hv (h2.1 h))];exact fin (fun h=>hv h.2.2)
  ·rw [if_neg (fun h=>hw (h1.1 h)),bs,if_neg (by decide)];exact fin (fun h=>hw h.2.1)
 ·
  rw [if_neg hlt,bs,if_neg (by decide)];exact fin (fun h=>hlt h.1)
theorem JK{k:Nat}(hk:50≤k){n:Int}{c:ae}(hc:VC n c){mv0:List Bool}(hl:mv0.length=c.1.length):W (fM k c k (mv0,0)) fun r=>yZ c mv0 r∧∀i,i < c.1.length→pL c (In mv0) i→In r i:=by
 obtain⟨w1,w2,w3,w4,_⟩:=hc.wl
 refine W.loop (f:=fM k c) (fun m y=>∃j:Nat,y.2=(j:Int)∧j≤c.1.length∧m=c.1.length - j∧yZ c mv0 y.1∧∀i,i < j→pL c (In mv0) i→In y.1 i) ?_ c.1.length k (mv0,0) (by omega)
  ⟨0,rfl,by omega,by omega,⟨hl,fun _ h=>h,fun _ _ h=>h⟩,fun i h=>by omega⟩
 rintro aH m ⟨mv,y⟩ ⟨j,hj,hle,hm,hP,hd⟩ ih;simp only at hj hP hd;subst hj;unfold fM;dsimp only;refine W.ite (fun hlt=>?_) (fun hge=>W.ret ⟨hP,fun i hi=>hd i (by omega)⟩);have hlt':j < c.1.length:=by omega
 have hjm:j < mv.length:=by rw [hP.len];exact hlt'
 rw [iO (by omega) (by omega),bs,iO (by omega) (by omega),bs]
 have hx:∃mv1,(if¬decide ((j:Int)∈c.2.2.1)=decide ((j:Int)∈c.2.2.2) then((aL mv (j:Int)).bind fun x18=>some (List.set mv (Int.toNat (j:Int)) true)) else(some mv))=some mv1∧yZ c mv0 mv1∧(∀i,In mv i→In mv1 i)∧
  ((((j:Int)∈c.2.2.1∧¬(j:Int)∈c.2.2.2)∨(¬(j:Int)∈c.2.2.1∧(j:Int)∈c.2.2.2))→In mv1 j):=by
  by_cases h:(decide ((j:Int)∈c.2.2.1))=(decide ((j:Int)∈c.2.2.2))
  ·
   refine⟨mv,by rw [if_neg (by simpa using h)],hP,fun _ h=>h,fun h'=>?_⟩;rw [decide_eq_decide] at h;rcases h' with⟨a,b⟩ |⟨a,b⟩
   ·exact absurd (h.1 a) b
   ·exact absurd (h.2 b) a
  ·
   have hor:((j:Int)∈c.2.2.1∧¬(j:Int)∈c.2.2.2)∨(¬(j:Int)∈c.2.2.1∧(j:Int)∈c.2.2.2):=by
    by_cases a:(j:Int)∈c.2.2.1 <;> by_cases b:(j:Int)∈c.2.2.2
    ·exact absurd (by simp [a,b]) h
    ·exact .inl ⟨a,b⟩
    ·exact .inr ⟨a,b⟩
    ·exact absurd (by simp [a,b]) h
   refine⟨_,by rw [if_pos h,aY hjm,bs,Int.toNat_natCast],⟨by simpa using hP.len,fun i hi=>(lR hjm).2 (.inr (hP.mono i hi)),fun C hC h0 i hi=>?_⟩,fun i hi=>(lR hjm).2 (.inr hi),fun _=>(lR hjm).2 (.inl rfl)⟩;rcases(lR hjm).1 hi with rfl |hi
   ·exact hC _ hlt' (.inl hor)
   ·exact hP.sound C hC h0 i hi
 obtain⟨mv1,e1,hP1,hm1,hd1⟩:=hx;rw [e1,bs];obtain⟨r,er,hR,hRd⟩:=JJ hk hc (mv0:=mv1) (mvx:=mv) hlt' (b1:=decide ((j:Int)∈c.2.2.1)) (b2:=decide ((j:Int)∈c.2.2.2)) (by simp) (by simp) hP1.len;rw [er,bs,bK (by omega) (by omega),bs];refine ih (m - 1) (r,(j:Int)+1) (by omega) ⟨j+1,rfl,by omega,by omega,⟨hR.len,fun i h=>hR.mono i (hP1.mono i h),fun C hC h0 i h=>hR.sound C hC (hP1.sound C hC h0) i h⟩,fun i hi hF=>?_⟩;by_cases hij:i=j
 ·subst hij;rcases hF with hF |⟨a,b,q,t,h3,h4,h5⟩
  ·exact hR.mono _ (hd1 hF)
  ·exact hRd ⟨a,b,q,t,h3,hP1.mono q h4,h5⟩
 ·exact hR.mono i (hm1 i (hd i (by omega) hF))
theorem ME{k:Nat}(hk:50≤k){n:Int}{c:ae}(hc:VC n c):W (mb k c) (xH c):=by
 obtain⟨w1,w2,w3,w4,_⟩:=hc.wl;unfold mb;rw [cO ⟨by omega,bH (by omega)⟩,bs,Int.toNat_natCast];refine W.bind (R:=xH c) ?_ fun r h=>W.ret h
 refine W.loop (f:=ii k c) (fun m y=>∃j:Nat,y.2=(j:Int)∧j≤c.1.length+1∧m=c.1.length+1 - j∧y.1.length=c.1.length∧(∀C,uY c C→∀i,In y.1 i→C i)∧(uY c (In y.1)∨j≤nn y.1)) ?_ (c.1.length+1) k _ (by omega)
  ⟨0,rfl,by omega,by omega,by simp,fun C _ i h=>(by
   exfalso;have h:(List.replicate c.1.length false)[i]? =some true:=h;rw [List.getElem?_replicate] at h;split at h <;> cases h),.inr (by omega)⟩
 rintro aH m ⟨mv,y⟩ ⟨j,hj,hle,hm,hl,hs,hor⟩ ih;simp only at hj hl hs hor;subst hj;unfold ii;dsimp only;refine W.ite (fun hlt=>?_) (fun hge=>W.ret ⟨hl,hs,?_⟩)
 ·obtain⟨r,er,hR,hRd⟩:=JK hk hc hl;rw [er,bs,bK (by omega) (by omega),bs];refine ih (m - 1) (r,(j:Int)+1) (by omega) ⟨j+1,rfl,by omega,by omega,hR.len,fun C hC=>hR.sound C hC (hs C hC),?_⟩;simp only;rcases hor with h |h
  ·refine .inl fun i hi hF=>hR.mono i (h i hi (hF.mono fun x hx=>hR.sound (In mv) h (fun _ h=>h) x hx))
  ·by_cases hnew:∃x,In r x∧¬In mv x
   ·have:=(Et (by rw [hl,hR.len]) hR.mono).2 hnew;exact .inr (by omega)
   ·refine .inl fun i hi hF=>hRd i hi (hF.mono fun x hx=>?_);false_or_by_contra;rename_i hb;exact hnew ⟨x,hx,hb⟩
 ·have hjn:j=c.1.length+1:=by omega
  rcases hor with h |h
  ·exact h
  ·have:nn mv≤mv.length:=List.count_le_length;omega
theorem D4{k:Nat}(hk:50≤k){n:Int}{c:ae}(hc:VC n c){mv:List Bool}(hl:mv.length=c.1.length){o:List cZ}(ho:o.length≤20):
 fu k c mv k (o,0)=some (o++pN mv c.2.2.1 false c.1.length)∧ft k c mv k (o,0)=some (o++pN mv c.2.2.2 true c.1.length):=by
 obtain⟨w1,w2,w3,w4,_⟩:=hc.wl
 constructor
 ·
  have key:W (fu k c mv k (o,0)) fun r=>r=o++pN mv c.2.2.1 false c.1.length:=by
   refine W.loop (f:=fu k c mv) (fun m y=>∃j:Nat,y.2=(j:Int)∧j≤mv.length∧m=mv.length - j∧y.1=o++pN mv c.2.2.1 false j) ?_ mv.length k (o,0) (by omega) ⟨0,rfl,by omega,by omega,by simp [pN]⟩;rintro aH m ⟨r,y⟩ ⟨j,hj,hle,hm,hr⟩ ih;simp only at hj hr;subst hj hr;unfold fu;dsimp only
   refine W.ite (fun hlt=>?_) (fun hge=>W.ret (by
    have:j=c.1.length:=by omega
    subst this;rfl))
   have hlt':j < mv.length:=by omega
   have hsl:=qV (mv:=mv) (ws:=c.2.2.1) (b:=false) (j:=j)
   have hb:((aL mv (j:Int)).bind fun x11=>if x11=true then((g9 k c.2.2.1 (j:Int)).bind fun r12=>some r12) else(some false))=some (decide (In mv j∧(j:Int)∈c.2.2.1)):=by
    have hIn:In mv j↔mv[j]=true:=by unfold In;rw [List.getElem?_eq_getElem hlt'];simp
    rw [aY hlt',bs];by_cases hmj:mv[j]=true
    ·rw [if_pos hmj,iO (by omega) (by omega),bs];congr 1;rw [decide_eq_decide,hIn];exact⟨fun h=>⟨hmj,h⟩,fun h=>h.2⟩
    ·rw [if_neg hmj,decide_eq_false (fun h=>hmj (hIn.1 h.1))]
   rw [hb,bs]
   have next:∀r',r'=o++pN mv c.2.2.1 false (j+1)→W ((some r':Option (List cZ)).bind fun x7=>(ck ((j:Int)+(1:Int))).bind fun x15=>fu k c mv aH (x7,x15)) fun r=>r=o++pN mv c.2.2.1 false c.1.length:=fun r' hr'=>by
    rw [bs,bK (by omega) (by omega),bs];exact ih (m - 1) (r',(j:Int)+1) (by omega) ⟨j+1,rfl,by omega,by omega,hr'⟩
   by_cases hx:In mv j∧(j:Int)∈c.2.2.1
   ·rw [decide_eq_true hx,if_pos rfl,cO (bH (by simp only [List.length_append,List.length_cons,List.length_nil];omega)),bs];exact next _ (by rw [oq,if_pos hx,List.append_assoc])
   ·rw [decide_eq_false hx,if_neg (by decide)];exact next _ (by rw [oq,if_neg hx,List.append_nil])
  obtain⟨r,e,rfl⟩:=key;exact e
 ·
  have key:W (ft k c mv k (o,0)) fun r=>r=o++pN mv c.2.2.2 true c.1.length:=by
   refine W.loop (f:=ft k c mv) (fun m y=>∃j:Nat,y.2=(j:Int)∧j≤mv.length∧m=mv.length - j∧y.1=o++pN mv c.2.2.2 true j) ?_ mv.length k (o,0) (by omega) ⟨0,rfl,by omega,by omega,by simp [pN]⟩;rintro aH m ⟨r,y⟩ ⟨j,hj,hle,hm,hr⟩ ih;simp only at hj hr;subst hj hr;unfold ft;dsimp only
   refine W.ite (fun hlt=>?_) (fun hge=>W.ret (by
    have:j=c.1.length:=by omega
    subst this;rfl))
   have hlt':j < mv.length:=by omega
   have hsl:=qV (mv:=mv) (ws:=c.2.2.2) (b:=true) (j:=j)
   have hb:((aL mv (j:Int)).bind fun x24=>if x24=true then((g9 k c.2.2.2 (j:Int)).bind fun r25=>some r25) else(some false))=some (decide (In mv j∧(j:Int)∈c.2.2.2)):=by
    have hIn:In mv j↔mv[j]=true:=by unfold In;rw [List.getElem?_eq_getElem hlt'];simp
    rw [aY hlt',bs];by_cases hmj:mv[j]=true
    ·rw [if_pos hmj,iO (by omega) (by omega),bs];congr 1;rw [decide_eq_decide,hIn];exact⟨fun h=>⟨hmj,h⟩,fun h=>h.2⟩
    ·rw [if_neg hmj,decide_eq_false (fun h=>hmj (hIn.1 h.1))]
   rw [hb,bs]
   have next:∀r',r'=o++pN mv c.2.2.2 true (j+1)→W ((some r':Option (List cZ)).bind fun x20=>(ck ((j:Int)+(1:Int))).bind fun x28=>ft k c mv aH (x20,x28)) fun r=>r=o++pN mv c.2.2.2 true c.1.length:=fun r' hr'=>by
    rw [bs,bK (by omega) (by omega),bs];exact ih (m - 1) (r',(j:Int)+1) (by omega) ⟨j+1,rfl,by omega,by omega,hr'⟩
   by_cases hx:In mv j∧(j:Int)∈c.2.2.2
   ·rw [decide_eq_true hx,if_pos rfl,cO (bH (by simp only [List.length_append,List.length_cons,List.length_nil];omega)),bs];exact next _ (by rw [oq,if_pos hx,List.append_assoc])
   ·rw [decide_eq_false hx,if_neg (by decide)];exact next _ (by rw [oq,if_neg hx,List.append_nil])
  obtain⟨r,e,rfl⟩:=key;exact e
theorem kG{k:Nat}(hk:50≤k){n:Int}{c:ae}{mv:List Bool}(hc:VC n c)(hF:xH c mv):jG k c=some ((aI c mv).map fun x=>(x.2,x.1)):=by
 obtain⟨mv',e,hF'⟩:=ME hk hc;have:=wY hF' hF;subst this;obtain⟨w1,w2,w3,w4,_⟩:=hc.wl;have hsl:=qV (mv:=mv') (ws:=c.2.2.1) (b:=false) (j:=c.1.length);unfold jG;rw [e,bs,(D4 hk hc hF.len (o:=[]) (by simp)).1,bs,(D4 hk hc hF.len (o:=[]++pN mv' c.2.2.1 false c.1.length) (by simp;omega)).2,bs,←D1,List.nil_append]
theorem u9{k:Nat}(hk:50≤k){c:ae}{mv:List Bool}(hs:iZ c){b:Bool}(hb:b=true↔∃i,lF c i i)(hF:sD c b=0→xH c mv):jd k c=some (if¬sD c b=0 then sD c b else if 4 < (aI c mv).length then 6 else 0):=by
 unfold jd;rw [AD hk hs hb,bs];by_cases h:sD c b=0
 ·have hc:=ug hs hb h;rw [if_neg (by simp [h]),if_neg (by simp [h]),kG hk hc (hF h),bs,List.length_map];by_cases h4:4 < (aI c mv).length
  ·rw [if_pos (by omega),if_pos h4]
  ·rw [if_neg (by omega),if_neg h4]
 ·rw [if_pos h,if_pos h]
theorem tc{k:Nat}(hk:50≤k){n:Int}{c:ae}{mv:List Bool}(hc:VC n c){x y:Bool×Int}(hx:x∈aI c mv)(hy:y∈aI c mv):lK k c (x.2,x.1) (y.2,y.1)=some (vA c x y):=by
 obtain⟨w1,w2,w3,w4,_⟩:=hc.wl;obtain⟨i,hi,ei⟩:=km x hx;obtain⟨j,hj,ej⟩:=km y hy;obtain⟨xb,xv⟩:=x;obtain⟨yb,yv⟩:=y;simp only at ei ej;subst ei ej;have gi:=List.getElem?_eq_getElem hi;have gj:=List.getElem?_eq_getElem hj;have li:=w4 _ (List.getElem_mem hi);have lj:=w4 _ (List.getElem_mem hj);unfold lK vA;simp only [mZ gi,mZ gj];by_cases hij:(i:Int)=(j:Int)
 ·have:i=j:=by omega
  subst this;have hirr:=(hc.good i _ gi).irr;rw [if_pos rfl];cases xb <;> cases yb <;> simp [hirr,bs]
 ·rw [if_neg hij,aY hj,bs,iO (by omega) (by omega),bs,aY hi,bs,iO (by omega) (by omega),bs];by_cases a:(i:Int)∈c.1[j].1 <;> by_cases b:(j:Int)∈c.1[i].1 <;> cases xb <;> cases yb <;> simp [a,b,hij,bs]
end Go.Proofs.YtopgphikdglphaaGreat
