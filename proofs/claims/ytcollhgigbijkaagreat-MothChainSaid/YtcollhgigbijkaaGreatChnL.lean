import Derived.Test.YtcollhgigbijkaaGreatVBB11
open Nat
open List hiding mem_of_getElem?
open Array hiding mem_of_getElem? mk
set_option linter.unusedVariables false
set_option linter.unusedSimpArgs false
namespace Go.Proofs.YtcollhgigbijkaaGreat
open K Go Go.Proofs
abbrev nm(m:ae)(b:List Int):Nat->Int->Int:=lO m λx=>decide (x∈b)
def sF(m:ae)(b:List Int)(c' c:Int)(d:Nat):Bool:=match uV m d c with
 |some l=>decide (c'∈l) && (decide (mW m≤nm m b d c') && (decide (nm m b d c < 0) && decide (nm m b (d+1) c=0)))
 |none=>false
def KI(m:ae)(b:List Int):Int->Nat->List (Int×Nat)->Prop
 |c,n,[]=>(0≤c/\c < mC m)/\0≤nm m b 0 c
 |c,n,t::l=>(0≤c/\c < mC m)/\(0≤t.1/\t.1 < mC m)/\t.2 < n/\t.2 < (mD m).length/\sF m b t.1 c t.2=true/\KI m b t.1 t.2 l
theorem vH{A:Nat->Int->Int}{c:Int}:∀{n:Nat},0≤A n c->f7 A c n=0->0≤A 0 c
 |0,h,_=>h
 |n+1,h,h0=>by
  rw [f7] at h0
  split at h0
  .
   rename_i hn;exact vH hn h0
  .
   cases h0
theorem HJ{m:ae}{b:List Int}(v:Vd m):∀(f:Nat) (c:Int) (n:Nat),n < f->0≤c->c < mC m->n≤(mD m).length->0≤nm m b n c->KI m b c n (nk m (nm m b) f c n)
 |0,_,_,h,_,_,_,_=>absurd h (not_lt_zero _)
 |f+1,c,n,hf,h0,h1,hn,ha=>by
  rw [nk]
  by_cases hs:f7 (nm m b) c n=0
  .
   rw [if_pos hs]
   exact⟨⟨h0,h1⟩,vH ha hs⟩
  .
   rw [if_neg hs]
   have hle:=ox (A:=nm m b) (c:=c) (n:=n)
   have hat:=oy ha hs
   obtain⟨d,hd⟩:∃d,f7 (nm m b) c n=d+1:=⟨f7 (nm m b) c n - 1,by omega⟩
   rw [hd,Nat.add_sub_cancel] at hat⊢
   obtain⟨l,e,g0,g1,gw,gm,gz⟩:=tK v (A:=nm m b) (B:=λx=>decide (x∈b)) ⟨λ_ _ _ _ _=>rfl⟩ (d:=d) h0 h1 (by omega) hat.2 hat.1
   have w0:=v.w0
   refine⟨⟨h0,h1⟩,⟨g0,g1⟩,by omega,by omega,?_,HJ v f _ d (by omega) g0 g1 (by omega) (Int.le_trans w0 gw)⟩
   simp_all [sF,decide_eq_true,gm]
theorem uB{m:ae}{b:List Int}:∀(l:List (Int×Nat)) (c:Int) (n:Nat),KI m b c n l->∃x,(c::l.map (·.1)).reverse.head? =some x/\x∈b
 |[],c,n,h=>by
  refine⟨c,rfl,?_⟩
  have h0:=h.2
  rw [show nm m b 0 c=if decide (c∈b)=true then mW m else -1 from rfl] at h0
  grind
 |t::l,c,n,h=>by
  obtain⟨x,h1,h2⟩:=uB l t.1 t.2 h.2.2.2.2.2
  simp_all
theorem N3{m:ae}{r3:ae×bT}{b:List Int}{G:List Int}{e1 e2:Int}{i:Nat}{c c':Int}{y:Int×Int}(v:Vd m)(h3:(r3.1.1,r3.1.2.1,r3.1.2.2.1,r3.1.2.2.2.1,r3.1.2.2.2.2.1,([]:List bY))=m)(hi:i+1 < 1000)(hG:G[i+1]? =some c)(hG':G[i]? =some c')(hy:y.2=((i+1:Nat):Int))(hc:0≤c/\c < mC m)(hc':0≤c'/\c' < mC m){d:Nat}(hd:d < (mD m).length)(hcd:sF m b c' c d=true):
 ∀(r j f:Nat) (day:Int),d - j=r->j≤d->r+1 < f->∃d0:Nat,j≤d0/\d0≤d/\bQ 1200 r3 (fq m λx=>decide (x∈b),e1) (G,e2) y f (day,false,(j:Int))=some (.ok (((d0+1:Nat):Int),true)):=by
 have d6:=v.d6
 have h31:r3.1.1=mC m:=by rw [<-h3]
 have h3d:r3.1.2.2.2.2.1=mD m:=by rw [<-h3]
 have h3w:r3.1.2.1=mW m:=by rw [<-h3]
 have g1:aJ G y.2=some c:=by grind [pV,Int.toNat_natCast]
 have hck1:ck (y.2 - 1)=some ((i:Nat):Int):=by grind [dh]
 have g2:aJ G ((i:Nat):Int)=some c':=pV (by omega) (by simp_all)
 have body:∀(j f:Nat) (day:Int),j < (mD m).length->bQ 1200 r3 (fq m λx=>decide (x∈b),e1) (G,e2) y (f+1) (day,false,(j:Int))=if sF m b c' c j=true then bQ 1200 r3 (fq m λx=>decide (x∈b),e1) (G,e2) y f (((j+1:Nat):Int),true,((j+1:Nat):Int)) else bQ 1200 r3 (fq m λx=>decide (x∈b),e1) (G,e2) y f (day,false,((j+1:Nat):Int)):=by
  intro j f day hj;have hck:ck ((j:Int)+1)=some (((j+1:Nat):Int)):=dh (by omega) (by omega);rw [bQ,if_pos (by simp_all),bs];simp only [Bool.not_false,if_true,g1,bs,h3];simp only [h31,h3w];rw [if_neg (by omega)];simp only [bs];rw [decide_eq_false (by omega)];simp only [Bool.false_eq_true,if_false];rw [Jc v (by omega) hj,bs];cases e:uV m j c with
  |none=>
   simp_all [sF,Bool.false_eq_true,if_false,bs,jh]
  |some l=>
   have hl:=oa v e;have hcn:sF m b c' c j=(decide (c'∈l) && (decide (mW m≤nm m b j c') && (decide (nm m b j c < 0) && decide (nm m b (j+1) c=0)))):=by simp_all [sF]
   obtain⟨r,er,hr⟩:=LP (k:=1200) (l:=l) (x:=c') (by omega) (by omega);simp only [if_true,hck1,bs,g2,er];by_cases a1:c'∈l
   .rw [if_pos (hr.2 a1),oO (by omega),bs,qs hc'.1 hc'.2,bs];by_cases a2:mW m≤nm m b j c'
    .rw [if_pos a2,bs,qs hc.1 hc.2,bs];by_cases a3:nm m b j c < 0
     .rw [if_pos a3,hck,bs,oO (by omega),bs,qs hc.1 hc.2,bs,bs];by_cases a4:nm m b (j+1) c=0
      .simp_all [sF,decide_eq_true,if_pos,bs,jh]
      simp_all [sF,if_neg,jh,bs]
     .have hq:¬(sF m b c' c j=true):=by simp_all
      simp_all [if_neg,bs,jh]
    .have hq:¬(sF m b c' c j=true):=by simp_all
     simp_all [if_neg,bs,jh]
   simp_all [sF,if_neg,bs,jh]
 have stop:∀(f:Nat) (day j:Int),bQ 1200 r3 (fq m λx=>decide (x∈b),e1) (G,e2) y (f+1) (day,true,j)=some (.ok (day,true)):=by
  intro f day j;rw [bQ];grind
 intro r
 induction r with
 |zero=>
  intro j f day h1 h2 h3;obtain⟨f,rfl⟩:∃q,f=q+2:=⟨f - 2,by omega⟩;grind
 |succ r ih=>
  intro j f day h1 h2 h3;obtain⟨f,rfl⟩:∃q,f=q+2:=⟨f - 2,by omega⟩;by_cases hcj:sF m b c' c j=true
  .grind
  .obtain⟨d0,q1,q2,q3⟩:=ih (j+1) (f+1) day (by omega) (by omega) (by omega);grind
theorem HK{m:ae}{r3:ae×bT}{b:List Int}{e1 e2:Int}(v:Vd m)(h3:(r3.1.1,r3.1.2.1,r3.1.2.2.1,r3.1.2.2.2.1,r3.1.2.2.2.2.1,([]:List bY))=m):
 ∀(l:List (Int×Nat)) (c:Int) (n f:Nat) (rest:List Int),KI m b c n l->l.length≤10->∃day:Nat,day≤n/\cS 1200 r3 (fq m λx=>decide (x∈b),e1) ((c::l.map (·.1)).reverse++rest,e2) (f+l.length) (0,1)=cS 1200 r3 (fq m λx=>decide (x∈b),e1) ((c::l.map (·.1)).reverse++rest,e2) f ((day:Int),((l.length+1:Nat):Int))
 |[],c,n,f,rest,h,_=>⟨0,zero_le _,rfl⟩
 |t::l,c,n,f,rest,h,hl=>by
  simp only [length_cons] at hl
  have d6:=v.d6
  obtain⟨hc,hc',ht,htd,hcd,hr⟩:=h
  obtain⟨day,hday,e⟩:=HK v h3 l t.1 t.2 (f+1) (c::rest) hr (by omega)
  have hF:(c::(t::l).map (·.1)).reverse++rest=(t.1::l.map (·.1)).reverse++c::rest:=by simp
  rw [hF]
  have hlen:((t.1::l.map (·.1)).reverse).length=l.length+1:=by simp
  have g1:((t.1::l.map (·.1)).reverse++c::rest)[l.length+1]? =some c:=by simp_all
  have g2:((t.1::l.map (·.1)).reverse++c::rest)[l.length]? =some t.1:=by
   simp_all
  obtain⟨d0,q1,q2,q3⟩:=N3 (G:=(t.1::l.map (·.1)).reverse++c::rest) (e1:=e1) (e2:=e2) (i:=l.length) (y:=((day:Int),((l.length+1:Nat):Int))) v h3 (by omega) g1 g2 rfl hc hc' htd hcd (t.2 - day) day 1200 day rfl hday (by omega);have hck:ck (((l.length+1:Nat):Int)+1)=some (((l.length+1:Nat):Int)+1):=dh (by omega) (by omega);refine⟨d0+1,by omega,?_⟩
  rw [show f+(t::l).length=f+1+l.length by grind,e,cS,if_pos (by
   grind)]
  rw [show bQ 1200 r3 (fq m λx=>decide (x∈b),e1) ((t.1::l.map (·.1)).reverse++c::rest,e2) ((day:Int),((l.length+1:Nat):Int)) 1200 (((day:Int),((l.length+1:Nat):Int)).1,false,((day:Int),((l.length+1:Nat):Int)).1)=_ from q3,jh,if_neg (by simp),jh,hck,bs];rfl
theorem N4{m:ae}{c:Int}{b:List Int}(v:Vd m)(h0:0≤c)(h1:c < mC m):cT 1200 (fq m λx=>decide (x∈b),0) c 1200 (false,0)=some (decide (0≤f8 m (λx=>decide (x∈b)) c)):=by
 have d6:=v.d6;have hlen:((fq m λx=>decide (x∈b)).length:Int)=(mD m).length+1:=by rw [mr];rfl
 have key:=kZ (T:=Bool×Int) (f:=cT 1200 (fq m λx=>decide (x∈b),0) c) (List.range ((mD m).length+1)) (λ(s:Bool) j=>(s,j)) (λ(s:Bool) j _=>s || decide (0≤lO m (λx=>decide (x∈b)) j c)) (λ_ _=>True) (λs=>some s)
  (λn s j hj _=>by
   rw [length_range] at hj;have hck:ck ((j:Int)+1)=some ((j:Int)+1):=dh (by omega) (by omega);refine⟨?_,trivial⟩;rw [cT,if_pos (by grind)];cases s with
   |true=>simp_all
   |false=>rw [if_neg (by simp),oO (by omega),bs,qs h0 h1,bs,bs,hck,bs];rfl)
  (λn s _=>by simp_all [length_range,cT,if_neg,mD,fq,decide]) (n:=1200) (s0:=false) (by grind) trivial
 have hor:∀(n i:Nat) (s:Bool),sU (λ(s:Bool) (j _:Nat)=>s || decide (0≤lO m (λx=>decide (x∈b)) j c)) i (List.range' i n) s=(s || (List.range' i n).any λj=>decide (0≤lO m (λx=>decide (x∈b)) j c)):=by
  intro n
  induction n with
  |zero=>simp_all [sU]
  |succ n ih=>grind [List.range'_succ,sU,Bool.or_assoc]
 rw [show cT 1200 (fq m λx=>decide (x∈b),0) c 1200 (false,0)=_ from key.1,List.range_eq_range',hor,Bool.false_or,<-List.range_eq_range'];congr 1;rw [Bool.eq_iff_iff,List.any_eq_true,decide_eq_true_iff];constructor
 .rintro⟨n,hn,h⟩;unfold f8;grind
 grind [rA,decide,decide_eq_true]
theorem Et(a0:List Int):jr 1200 a0=some true:=by
 unfold jr;obtain⟨r1,e1,rfl⟩:∃r1,lJ 1200 a0=some r1/\r1=(a0,0,1):=⟨_,rfl,rfl⟩;rw [e1,bs];obtain⟨r3,e3,lo3,v,hg,hcs,hds⟩:=AU (k:=1200) (by omega) (l:=(a0,0,1)) (m:=0) (cs:=5) (ds:=5) ⟨Int.le_refl 0,Int.le_refl 0⟩ (by omega) (by omega) (by omega);rw [show iq 1200 ((a0,(0:Int),(1:Int)).1,(a0,(0:Int),(1:Int)).2.1,(a0,(0:Int),(1:Int)).2.2) 5 5=some r3 from e3,bs];have c1:=v.c1;have c5:=v.c5;have d6:=v.d6;obtain⟨r5,e5,lo5,hb⟩:=Bf (k:=1200) (by omega) (l:=(r3.2.1,r3.2.2.1,r3.2.2.2)) (c:=r3.1.1) lo3 (by omega) ⟨c1,c5⟩;have l5:=hb.len ⟨by omega,c5⟩
 have eta:(r3.1.1,r3.1.2.1,r3.1.2.2.1,r3.1.2.2.2.1,r3.1.2.2.2.2.1,([]:List bY))=r3.1:=by
  grind
 rw [e5,bs,eta,AW v.sm (by omega) (by omega),bs,v.chk,oV.2 hb];simp only [not_true_eq_false,if_false];rw [Fa v (by omega),bs];simp only [Bool.not_true,bs,Bool.false_eq_true,if_false]
 have key:=kZ (T:=Int) (β:=Except Bool Unit) (f:=dp 1200 r3 r5 (fq r3.1 λx=>decide (x∈r5.1),0)) (List.range (mC r3.1).toNat) (λ(_:Unit) j=>j) (λs _ _=>s) (λ_ _=>True) (λ_=>some (.ok ()))
  (λn s j hj _=>by
   rw [length_range] at hj;have hck:ck ((j:Int)+1)=some ((j:Int)+1):=dh (by omega) (by omega);have hjC:(j:Int) < mC r3.1:=by omega
   refine⟨?_,trivial⟩;rw [dp,if_pos hjC,eta,D1 v.sm (by omega) (by omega),bs,N4 v (by omega) hjC,bs]
   have hS:xJ r3.1 r5.1 j=if f8 r3.1 (λy=>decide (y∈r5.1)) j < 0 then([],11) else(((j:Int)::(nk r3.1 (lO r3.1 λy=>decide (y∈r5.1)) 10 j (f8 r3.1 (λy=>decide (y∈r5.1)) j).toNat).map (·.1)).reverse,0):=by
    unfold xJ;rw [if_neg (λh=>h v.chk),if_neg (λh=>h (oV.2 hb)),if_neg (λh=>h ⟨by omega,hjC⟩)]
   rw [hS];by_cases hx:f8 r3.1 (λy=>decide (y∈r5.1)) j < 0
   .rw [if_pos hx,decide_eq_false (by omega)];simp only [Bool.false_eq_true,not_false_eq_true,if_true,not_true_eq_false,if_false,length_nil];simp_all [bs,if_neg,jh]
   .rw [if_neg hx,decide_eq_true (by omega)];obtain⟨n0,en,hnl,ha⟩:=rA hx;rw [en,Int.toNat_natCast];have hch:=HJ (b:=r5.1) v 10 j n0 (by omega) (by omega) hjC hnl ha;have hpl:=(xH v (A:=lO r3.1 λy=>decide (y∈r5.1)) (B:=λy=>decide (y∈r5.1)) ⟨λ_ _ _ _ _=>rfl⟩ 10 j n0 (by omega) (by omega) hjC hnl ha).2;generalize nk r3.1 (lO r3.1 λy=>decide (y∈r5.1)) 10 j n0=l at *;have hGl:(((j:Int)::l.map (·.1)).reverse).length=l.length+1:=by simp
    have hck1:ck ((((((j:Int)::l.map (·.1)).reverse).length:Nat):Int) - 1)=some ((l.length:Nat):Int):=by
     grind [dh]
    have gl:aJ (((j:Int)::l.map (·.1)).reverse) ((l.length:Nat):Int)=some (j:Int):=pV (by omega) (by simp_all);obtain⟨x,hx1,hx2⟩:=uB l j n0 hch
    have g0:aJ (((j:Int)::l.map (·.1)).reverse) (0:Int)=some x:=by
     simp_all [List.head?_eq_getElem?,pV]
    obtain⟨r,er,hr⟩:=LP (k:=1200) (l:=r5.1) (x:=x) (by omega) (by omega);obtain⟨day,hday,el⟩:=HK (b:=r5.1) (e1:=0) (e2:=0) v eta l j n0 (1200 - l.length) [] hch (by omega);rw [append_nil,show 1200 - l.length+l.length=1200 by omega] at el
    have hend:cS 1200 r3 (fq r3.1 λx=>decide (x∈r5.1),0) (((j:Int)::l.map (·.1)).reverse,0) (1200 - l.length) ((day:Int),((l.length+1:Nat):Int))=some (.ok ()):=by
     rw [show 1200 - l.length=1199 - l.length+1 by omega,cS,if_neg (by simp_all)]
    simp only [not_true_eq_false,if_false];rw [if_neg (by omega),if_neg (by omega),hck1,bs,gl,bs,if_neg (show¬¬((j:Int)=(j:Int)) from λh=>h rfl),g0,bs,er,bs,bs,decide_eq_false (by simp_all)];simp_all [Bool.false_eq_true,if_false,jh,bs])
  (λn s _=>by rw [length_range,dp,if_neg (by grind)]) (n:=1200) (s0:=()) (by grind) trivial
 grind [dp,fq,decide,jh,Hf,bs]
