import Derived.Test.YtflilincnacbpaaGreatVTB6
import Derived.Conc.WgLib
import Derived.Conc.AtomicLaws2
import Derived.Conc.SmallLaws
import Derived.KernelRfl
import Derived.Conc.WgArith
import Derived.Laws.DeepBits32
import Derived.Laws.BitsLemmas
import Derived.Conc.ClockLaws
open Nat
open List hiding mem_of_getElem?
open Array hiding mem_of_getElem? mk
set_option linter.unusedVariables false
set_option linter.unusedSimpArgs false
namespace Go.Proofs.YtflilincnacbpaaGreat
namespace K
open Go Go.Conc
theorem mm{n:Nat}{sg:Nat->Ph}{f:Ph->Nat}(h:∀i,i < n->f (sg i)=0):al n sg f=0:=te h
theorem Qf{n:Nat}{sg:Nat->Ph}{f:Ph->Nat}(h:0 < al n sg f):∃i,i < n/\0 < f (sg i):=by
 apply Classical.byContradiction;grind [mm,eq_zero_or_pos]
theorem tl{t:Trace}{g:Nat}(h:∀op∈t,op.g≠g):∀i,t.deaf g i=0
 |0=>rfl
 |i+1=>by
  cases hy:t[i]? with
  |none=>
   unfold Trace.deaf
   rw [hy]
   exact tl h i
  |some y=>
   rw [deaf_succ hy,tl h i]
   have:=h y (mem_of_getElem? hy)
   unfold deafStep
   split
   .
    simp_all
   .
    simp_all
   .
    rfl
section
variable {P:Program}{p:Gp}{T:Tq}{n:Nat}{sg:Nat->Ph}{rk:Nat->Rk}{k:Nat->Nat}{A Z:Nat->Nat->Prop}{q:dV}{gs:Array Goroutine}{w:World}{t:Trace}{sl:Option (Nat×Nat)}
theorem Bk.spawn(h:Bk p n sg q)(hpd:(sg 0).pd=1)(hrg:(sg 0).rg=false)(hop:(sg 0).op=true)(hsp:(sg 0).sp < 100):
 Bk p (n+1) (upd (upd sg n .wk0) 0 { sg 0 with pd:=0,sp:=(sg 0).sp+1,al:=false,jn:=false }) q:=by
 have hn0:=h.n0
 have hne:(0:Nat)≠n:=by omega
 have e0:upd (upd sg n .wk0) 0 { sg 0 with pd:=0,sp:=(sg 0).sp+1,al:=false,jn:=false } 0={ sg 0 with pd:=0,sp:=(sg 0).sp+1,al:=false,jn:=false }:=bC
 have en:upd (upd sg n .wk0) 0 { sg 0 with pd:=0,sp:=(sg 0).sp+1,al:=false,jn:=false } n= .wk0:=by grind [bz,bC]
 have ei:∀i,i≠0->i≠n->upd (upd sg n .wk0) 0 { sg 0 with pd:=0,sp:=(sg 0).sp+1,al:=false,jn:=false } i=sg i:=λi a b=>by simp_all [bz]
 have e:∀f:Ph->Nat,f { sg 0 with pd:=0,sp:=(sg 0).sp+1,al:=false,jn:=false }=f (sg 0)->al (n+1) (upd (upd sg n .wk0) 0 { sg 0 with pd:=0,sp:=(sg 0).sp+1,al:=false,jn:=false }) f=al n sg f+f .wk0:=λf hf=>by
  grind [K.al,aL,nH]
 have e1:=e Ph.ac rfl
 have e2:=e Ph.w1 rfl
 have e3:=e Ph.w2 rfl
 have e4:=e Ph.hd rfl
 have e5:=e Ph.aw rfl
 have e6:=e Ph.rn rfl
 have e7:=e Ph.tk rfl
 have e8:=e Ph.qu rfl
 have e9:=e Ph.rh rfl
 have e10:=e Ph.ty rfl
 have e11:=e Ph.dt rfl
 have e12:=e Ph.lv rfl
 have e13:=e Ph.phi rfl
 have e14:=e Ph.nw rfl
 simp only [Ph.wk0] at e1 e2 e3 e4 e5 e6 e7 e8 e9 e10 e11 e12 e13 e14
 have hlv:=h.lv
 have hall:∀(Q:Nat->Ph->Prop),(∀i,i < n->Q i (sg i))->Q n .wk0->(Q 0 (sg 0)->Q 0 { sg 0 with pd:=0,sp:=(sg 0).sp+1,al:=false,jn:=false })->∀i,i < n+1->Q i (upd (upd sg n .wk0) 0 { sg 0 with pd:=0,sp:=(sg 0).sp+1,al:=false,jn:=false } i):=λQ h1 h2 h3 i hi=>by
  grind
 refine⟨by rw [e0,e1];have:=h.c;simp_all,λ_=>?_,λx=>?_,by simp_all,λx=>?_,by rw [e0];exact h.op,λx=>?_,h.le,by rw [e4];exact h.hd,by rw [e5,e6,e7,e8,e9,e10];exact h.s0,by rw [e5,e6,e7,e8,e9];exact h.s1,by rw [e11];exact h.h,by rw [e13];exact h.f,λi ow φ hi=>?_,λi hi=>?_,by grind,?_,by omega,by rw [e0];exact h.cb,λx=>?_⟩
 .
  rw [e2,e3];exact h.un hrg
 .
  simp_all
 .
  rw [e0] at x;exact h.rgc x
 .
  rw [e14,e0,h.nw x]
 .
  exact hall (λ_ s=>s.se=some (ow,φ)->q.f≤φ/\(q.f=φ->q.word=ow)) (λi hi=>h.se i ow φ hi) (λx=>(by cases x)) (λx=>x) i hi
 .
  exact hall (λ_ s=>s.nb≤q.N/\(s.nb=0\/(q.S=1/\s.tk=1))) (λi hi=>h.nb i hi) ⟨zero_le _,.inl rfl⟩ (λx=>x) i hi
 .
  refine hall (λi s=>s.Ok i) (λi hi=>h.ok i hi) ⟨zero_le _,λx=>(by cases x),λ_=>rfl,λx=>(by cases x),Nat.le_refl _,λx=>absurd x hne.symm,λ_ _=>⟨rfl,λ_=>rfl⟩⟩ λx=>⟨x.one,x.rg,x.lv,λy=>?_,x.dt,x.main,x.work⟩;have:=(x.main rfl).2.2.2.2.1;simp_all
 simp_all
theorem CW.spawn(h:CW P p T n sg rk k A Z q gs w t){fr:Frame}{cs:List Frame}(hi:gs[0]? =some (Gr fr cs))(hs:Vl P p (yz P p T (rk 0)) true (sg 0) ⟨w,A 0,Z 0⟩ fr cs)(hq0:(sg 0).q=false):
 ∃n' sg' rk' k' A' Z' gs' ops,Rk.lt (rk' 0) (rk 0)/\runT P (crowd gs w sl) 0=(.next (crowd gs' w sl),ops)/\CW P p T n' sg' rk' k' A' Z' q gs' w (t++ops):=by
 obtain⟨hcr,_,hpd,hdf,hrg,hop,hsp,fr',fc,Sh,hst,hSh,hc1,hc2⟩:=hs
 have hgo:=runT_crowd_spawn (sl:=sl) hi (by exact hst w)
 rw [ofEvents_none] at hgo
 have hszn:gs.size=n:=h.size
 have hn:0 < n:=h.bk.n0
 have hne:(0:Nat)≠n:=by omega
 obtain⟨_,_,_,hf1⟩:=hc1 _ (bu.refl _)
 obtain⟨rc,hlc,hwc⟩:=ti hf1
 obtain⟨_,_,_,hf0⟩:=hc2 _ (bu.refl _)
 obtain⟨r0,hl0,hw0⟩:=ti hf0
 let x:MemOp:={ g:=0,fn:=fr.fn,pos:=fr.place,act:=.go gs.size }
 let y:MemOp:={ g:=gs.size,fn:=fc.fn,pos:=fr.place,act:=.start }
 have e2:t++ #[x,y]=t++ #[x]++ #[y]:=by grind
 have hnt:∀op∈(#[x,y]:Array MemOp),op.act.touch? =none:=λop ho=>by
  simp at ho;rcases ho with rfl |rfl <;> rfl
 have hnd:∀g,Deaf (t++ #[x,y]) g=Deaf t g:=λg=>by
  rw [e2,Deaf_push,Deaf_push];rfl
 have htn:∀i,t.deaf n i=0:=tl λop ho=>ne_of_lt (h.tr.num op ho)
 have hD0:Deaf t 0=0:=(h.deaf 0 hn hq0).trans hdf
 have htr:vO (n+1) w.heap.size (t++ #[x,y]):=by
  rw [e2];refine vO.words (vO.words (h.tr.mono (le_succ n) (Nat.le_refl _)) (succ_pos n) (i:=0) ?_ ?_ ?_) (lt_succ_self n) (i:=n) ?_ ?_ ?_
  .grind
  .simp_all
  .simp_all
  .grind
  .simp_all
  simp_all
 have fork:∀{j:Nat},Knows t 0 j->Knows (t++ #[x,y]) n j:=λ{j} hkn=>
  ConcN.fork_knows (x:=x) (y:=y) ⟨rfl,by grind⟩ ⟨hszn,rfl⟩ hD0 (htn _) hkn
 have s0:upd (upd sg n .wk0) 0 { sg 0 with pd:=0,sp:=(sg 0).sp+1,al:=false,jn:=false } 0={ sg 0 with pd:=0,sp:=(sg 0).sp+1,al:=false,jn:=false }:=bC
 have sn:upd (upd sg n .wk0) 0 { sg 0 with pd:=0,sp:=(sg 0).sp+1,al:=false,jn:=false } n= .wk0:=by grind [bz,bC]
 have si:∀i,i≠0->i≠n->upd (upd sg n .wk0) 0 { sg 0 with pd:=0,sp:=(sg 0).sp+1,al:=false,jn:=false } i=sg i:=λi a b=>by simp_all [bz]
 have hqq:∀i,i≠n->(upd (upd sg n .wk0) 0 { sg 0 with pd:=0,sp:=(sg 0).sp+1,al:=false,jn:=false } i).q=(sg i).q:=λi b=>by
  by_cases a:i=0
  .simp_all
  simp_all
 have hnc:∀{j:Nat} {op:MemOp},op∈(#[x,y]:Array MemOp)->(t++ #[x,y])[j]? =some op->¬Oq p (t++ #[x,y]) j op:=λ{j op} hm hop hc=>by
  rcases hc with⟨x,hx,_⟩ |⟨x,b,hx,_⟩
  .grind [touch_of]
  grind
 refine⟨n+1,upd (upd sg n .wk0) 0 { sg 0 with pd:=0,sp:=(sg 0).sp+1,al:=false,jn:=false },upd (upd rk n rc) 0 r0,k,upd A n (λb=>b < w.heap.size/\¬Sh b),(λi b=>if i=n then Sh b else if i=0 then Z 0 b\/Sh b else Z i b),_, #[x,y],by simp_all [bC],hgo,?_⟩
 refine⟨by simp [hszn],htr,λi b hb=>?_,λi b hb=>?_,λi j b hi hj hne' hb h1 h2=>?_,λi j z b hi ha hx hb hA hZ=>?_,λi j z b hi ha hx hb hs=>?_,λj z b hx hb hs hk=>(h.shs j z b (de hnt hx).2 hb hs hk).app _,λe i j z hi ha hx hb=>?_,λj op hop hc=>?_,λe=>(by simp_all),λi hi hq=>?_,λi g hg=>?_,h.at_,h.bk.spawn hpd hrg hop hsp,λb hb i=>?_,h.bkl,λi=>?_,λi hi=>?_,λg hg hgp=>?_,h.ok⟩
 .
  by_cases e:i=n
  .simp_all [bC]
  .rw [bz e] at hb;exact h.domA i b hb
 .
  split at hb
  .simp_all
  .split at hb
   .exact hb.elim (h.domZ 0 b) λx=>(hSh b x).1
   .exact h.domZ i b hb
 .
  have hzn:∀i,i≠n->i < n+1->Sh b->¬A i b->(if i=n then Sh b else if i=0 then Z 0 b\/Sh b else Z i b):=λi hin hil hs ha=>by
   rw [if_neg hin];split
   .simp_all
   .rename_i h0;exact(h.cover 0 i b hn (by omega) (λe=>h0 e.symm) hb (hSh b hs).2.1 ha).2
  by_cases ei:i=n
  .subst ei;rw [bC] at h1;have hs:Sh b:=Classical.byContradiction λx=>h1 ⟨hb,x⟩;rw [bz (λe=>hne' e.symm)] at h2;simp_all
  .by_cases ej:j=n
   .subst ej;rw [bC] at h2;have hs:Sh b:=Classical.byContradiction λx=>h2 ⟨hb,x⟩;simp_all [bz,if_pos]
   .rw [bz ei] at h1;rw [bz ej] at h2;obtain⟨z1,z2⟩:=h.cover i j b (by omega) (by omega) hne' hb h1 h2;grind
 .
  have hxo:=(de hnt hx).2;by_cases e:i=n
  .subst e;rw [bC] at hA;rw [if_pos rfl] at hZ;by_cases hs:Sh b
   .refine fork (h.knows 0 j z b hn hq0 hxo hb (hSh b hs).2.1 ?_);rcases hZ with hZ |hZ |hZ
    .simp_all
    .simp_all
    simp_all
   .exact absurd ⟨h.tr.inb j z b hxo hb,hs⟩ hA
  .rw [bz e] at hA;rw [hqq i e] at ha;refine(h.knows i j z b (by omega) ha hxo hb hA (hZ.imp id (.imp (λhz hz'=>hz ?_) id))).app _;simp_all
 .
  have hxo:=(de hnt hx).2;by_cases e:i=n
  .subst e;exact(h.shk 0 j z b hn hq0 hxo hb hs).imp fork id
  .rw [hqq i e] at ha;exact(h.shk i j z b (by omega) ha hxo hb hs).imp (·.app _) id
 .
  have hxo:=(de hnt hx).2;by_cases e':i=n
  .subst e';exact(h.lkf e 0 j z hn hq0 hxo hb).imp fork (·.app _)
  .rw [hqq i e'] at ha;exact(h.lkf e i j z (by omega) ha hxo hb).imp (·.app _) (·.app _)
 .
  rcases getElem?_append_cases hop with⟨hlt,hop'⟩ |⟨_,hm⟩
  .have hgn:=h.tr.num op (mem_of_getElem? hop');refine(h.kn j op hop' (hc.old hlt)).imp (·.app _) (.imp (λ⟨h1,h2,h3⟩=>?_) (·.app _));rw [si op.g (by omega) (by omega)];omega
  grind
 .
  rw [hnd];by_cases e:i=n
  .subst e;rw [sn];exact htn _
  .rw [hqq i e] at hq
   have:(upd (upd sg n .wk0) 0 { sg 0 with pd:=0,sp:=(sg 0).sp+1,al:=false,jn:=false } i).df=(sg i).df:=by
    by_cases a:i=0
    .simp_all
    simp_all
   rw [this];exact h.deaf i (by omega) hq
 .
  have hgi:i < n+1:=by grind
  rw [hnd];by_cases e:i=n
  .subst e
   have:g=Gr fc []:=by
    grind
   subst this;rw [sn,bz hne.symm,bC,bC];have hz:(λb=>if i=i then Sh b else if i=0 then Z 0 b\/Sh b else Z i b)=Sh:=by simp_all
   rw [hz];refine⟨λe=>(by cases e),λ_=>.run ?_⟩;grind
  .have hg':(gs.setIfInBounds 0 (Gr fr' cs))[i]? =some g:=by
    grind
   by_cases a:i=0
   .subst a;rw [getElem?_setIfInBounds_self_of_lt (by omega)] at hg';cases hg';rw [s0,bC,bz hne];have hz:(λb=>if 0=n then Sh b else if(0:Nat)=0 then Z 0 b\/Sh b else Z 0 b)=λb=>Z 0 b\/Sh b:=by simp_all
    rw [hz];refine⟨λe=>?_,λ_=>.run hw0⟩;simp_all
   .rw [getElem?_setIfInBounds_ne (λe=>a e.symm)] at hg';rw [si i a e,bz a,bz e,bz e]
    have hz:(λb=>if i=n then Sh b else if i=0 then Z 0 b\/Sh b else Z i b)=Z i:=by
     simp_all
    rw [hz];exact h.sts i g hg'
 .
  by_cases e:i=n
  .subst e;rw [bC];exact⟨h.domA 0 b (h.shA b hb 0),λhs=>(hSh b hs).2.1 (h.shA b hb 0)⟩
  .rw [bz e];exact h.shA b hb i
 .
  show¬(if i=n then Sh p.bk else if i=0 then Z 0 p.bk\/Sh p.bk else Z i p.bk);split
  .grind
  .split
   .exact λe=>e.elim (h.bkZ 0) λx=>(hSh _ x).2.2 rfl
   .exact h.bkZ i
 .
  by_cases e:i=n
  .subst e;rw [bC,sn];exact⟨λ_=>rfl,λ_=>⟨h.bkl,λhs=>(hSh _ hs).2.2 rfl⟩⟩
  .rw [bz e,h.bkA i (by omega)];by_cases a:i=0
   .simp_all
   simp_all
 .
  have:g=Gr fr' cs:=by
   grind
  subst this;obtain⟨_,_,_,_,e⟩:=hgp;cases e
theorem CW.movable(h:CW P p T n sg rk k A Z q gs w t):∃(i:Nat) (g:Goroutine),gs[i]? =some g/\g.status= .running:=by
 apply Classical.byContradiction;intro hno
 have hget:∀i,i < n->∃g,gs[i]? =some g/\g.status≠.running:=λi hi=>by
  have hlt:i < gs.size:=by rw [h.size];exact hi
  exact⟨gs[i],Array.getElem?_eq_getElem hlt,λe=>hno ⟨i,_,Array.getElem?_eq_getElem hlt,e⟩⟩
 have hstand:∀i,i < n->(sg i).q=false->(J6 (sg i) q)\/(q.cl=false/\(sg i).mx=0/\0 < i/\∃fr cs z,gs[i]? =some (parked (Gr fr cs) #[rcase p.bc z] (.recv true)))\/(i=0/\(sg i).mx=0/\(sg i).op=true/\0 < (sg i).sp/\∃fr cs x z,gs[i]? =some (parked (Gr fr cs) #[scase p.bc x z] .send)):=λi hi hq=>by
  obtain⟨g,hg,hr⟩:=hget i hi;have hs:=(h.sts i g hg).2 hq;cases hs with
  |run h=>simp_all
  |blk hb h=>simp_all
  |rcv hc hz=>exact .inr (.inl ⟨hc,hz.2.2.2.2.1,Nat.pos_of_ne_zero (by simpa using hz.2.1),_,_,_,hg⟩)
  |rcd hc hz=>simp_all
  |snd hz=>exact .inr (.inr ⟨by simpa using hz.2.1,hz.2.2.2.2.2.2.1,hz.2.2.1,hz.2.2.2.1,_,_,_,_,hg⟩)
 have hok:=h.bk.ok
 have hmx:∀i,i < n->(sg i).hd=0/\(sg i).aw=0/\(sg i).rn=0/\(sg i).tk=0/\(sg i).rh=0/\(sg i).ty=0:=λi hi=>by
  cases hq:(sg i).q with
  |true=>rw [(hok i hi).quit hq];simp_all
  |false=>
   have h1:=(hok i hi).one;have h2:=(hok i hi).lv hq;rcases hstand i hi hq with(⟨h3,_⟩ |⟨h3,_⟩) |⟨_,h3,_⟩ |⟨_,h3,_⟩
   .grind
   .have:=((hok i hi).rg h3).1;simp_all
   .simp_all
   simp_all
 have a1:=mm (f:=Ph.hd) λi hi=>(hmx i hi).1;have a2:=mm (f:=Ph.aw) λi hi=>(hmx i hi).2.1;have a3:=mm (f:=Ph.rn) λi hi=>(hmx i hi).2.2.1;have a4:=mm (f:=Ph.tk) λi hi=>(hmx i hi).2.2.2.1;have a5:=mm (f:=Ph.rh) λi hi=>(hmx i hi).2.2.2.2.1;have a6:=mm (f:=Ph.ty) λi hi=>(hmx i hi).2.2.2.2.2;have hhd:=h.bk.hd;have hle:=h.bk.le
 have hnq:∀i,i < n->(sg i).q=false->¬((sg i).qu=1/\q.T=0):=λi hi hq ⟨h1,h2⟩=>by
  have h3:=jZ (sg:=sg) (f:=Ph.qu) hi;rcases(show q.S=0\/q.S=1 by omega) with e |e
  .obtain⟨b1,b2,b3,b4⟩:=h.bk.s0 e;omega
  .obtain⟨b1,b2,b3,b4,b5,b6⟩:=h.bk.s1 e;omega
 have hn0:=h.bk.n0;have hq0:=((hok 0 hn0).main rfl).2.2.2.2.1
 have hwk:∀i,0 < i->i < n->(sg i).q=false->q.cl=false/\∃fr cs z,gs[i]? =some (parked (Gr fr cs) #[rcase p.bc z] (.recv true)):=λi hp hi hq=>by
  rcases hstand i hi hq with(h3 |⟨h3,_⟩) |⟨h3,_,_,h4⟩ |⟨h3,_⟩
  .simp_all
  .have:=((hok i hi).rg h3).2;omega
  .simp_all
  .omega
 rcases hstand 0 hn0 hq0 with(h3 |⟨h3,h4⟩) |⟨_,_,h3,_⟩ |⟨_,_,h3,h4,f0,c0,x0,z0,h5⟩
 .simp_all
 .have hc:=h.bk.rgc (.inl h3);have hm:=(hok 0 hn0).main rfl;have hre:=h.bk.re h3
  have hall:∀f:Ph->Nat,f .quit=0->f (sg 0)=0->al n sg f=0:=λf hf hf0=>mm λi hi=>by
   rcases eq_zero_or_pos i with e |e
   .simp_all
   .cases hq:(sg i).q with
    |true=>rw [(hok i hi).quit hq];exact hf
    |false=>
     simp_all
  have b1:=hall Ph.ac rfl hm.1;have b2:=hall Ph.w1 rfl hm.2.1;have b3:=hall Ph.w2 rfl hm.2.2.1;have hcc:=h.bk.c;omega
 .omega
 .have hcl:=h.bk.op h3;have hnw:=h.bk.nw hcl;obtain⟨i,hi,hpos⟩:=Qf (n:=n) (sg:=sg) (f:=Ph.nw) (by omega);have hm:=(hok 0 hn0).main rfl
  have hp:0 < i:=by
   grind
  cases hq:(sg i).q with
  |true=>rw [(hok i hi).quit hq] at hpos;simp_all
  |false=>
   obtain⟨_,fr,cs,z,hg⟩:=hwk i hp hi hq;exact h.pp _ h5 ⟨_,_,_,_,rfl⟩ i _ hp hg ⟨_,_,_,rfl⟩
end
def Tn:Option Rk->Option Rk->Prop
 |none,some _=>True
 |some a,some b=>Rk.lt a b
 |_,none=>False
theorem Ah:Acc Tn none:=Acc.intro _ λy hy=>by cases y <;> exact hy.elim
theorem LI:∀x,Acc Tn x
 |none=>Ah
 |some r=>by
  have h:=Do r
  induction h with
  |intro r _ ih=>
   refine Acc.intro _ λy hy=>?_
   cases y with
   |none=>exact Ah
   |some a=>exact ih a hy
def OZ(sg:Nat->Ph)(rk:Nat->Rk):Nat->Option Rk:=λi=>if i=0\/(sg i).q=true then none else some (rk i)
def Ff(gs:Array Goroutine)(i:Nat):Nat:=match gs[i]? with
 |some g=>if g.status= .running then 1 else 0
 |none=>0
theorem Av:∀n:Nat,aL (λ_=>1) n=n
 |0=>rfl
 |n+1=>by simp only [aL,Av n]
theorem OY(gs:Array Goroutine)(n:Nat):aL (Ff gs) n≤n:=by
 have:=jw (k:=Ff gs) (k':=λ_=>1) (n:=n) λj _=>by
  grind [Ff]
 grind [Av]
theorem xX{gs:Array Goroutine}{i n:Nat}{g g':Goroutine}(hi:gs[i]? =some g)(hr:g.status= .running)(hr':g'.status≠.running)(hin:i < n):aL (Ff (gs.setIfInBounds i g')) n+1=aL (Ff gs) n:=by
 have h1:aL (Ff (gs.setIfInBounds i g')) n=aL (upd (Ff gs) i 0) n:=nH λj _=>by
  unfold upd Ff;grind
 grind [oP,Ff]
section
variable {P:Program}{p:Gp}{T:Tq}
theorem Ag{gs:Array Goroutine}{g:Goroutine}{w:World}{fr:Frame}{cs:List Frame}:gs.map (Conc.woken P g { Gr fr cs with status:=.blocked } w)=gs:=by
 have:(λo=>Conc.woken P g { Gr fr cs with status:=.blocked } w o)=id:=by
  funext o;simp_all [Conc.woken,if_neg]
 simp_all
theorem CW.block{n:Nat}{sg:Nat->Ph}{rk:Nat->Rk}{k:Nat->Nat}{A Z:Nat->Nat->Prop}{q:dV}{gs:Array Goroutine}{w:World}{t:Trace}(h:CW P p T n sg rk k A Z q gs w t){i:Nat}{fr:Frame}{cs:List Frame}(hi:gs[i]? =some (Gr fr cs))(hq:(sg i).q=false)(hb:J6 (sg i) q)(hw:vM P p T (rk i) (i == 0) (sg i) ⟨w,A i,Z i⟩ fr cs):
 CW P p T n sg rk k A Z q (gs.setIfInBounds i { Gr fr cs with status:=.blocked }) w t:=by
 have hin:=h.lt hi
 have hg':∀j,j≠i->(gs.setIfInBounds i { Gr fr cs with status:=.blocked })[j]? =gs[j]? :=λj hj=>getElem?_setIfInBounds_ne (λe=>hj e.symm)
 have:=h.comm (gs':=gs.setIfInBounds i { Gr fr cs with status:=.blocked }) (u:=[]) (λop ho=>by simp at ho) (by simp [h.size]) (sg':=sg) (λ_=>rfl) rfl h.at_ h.bk rfl (rk':=rk) (λj x hx=>?_) λx hx hgp i1 x1 hp1 hx1 hr1=>?_
 .
  simp_all
 .
  by_cases b:j=i
  .subst b;rw [getElem?_setIfInBounds_self_of_lt (by grind)] at hx;cases hx;exact⟨λe=>(by simp_all),λ_=>.blk hb hw⟩
  .rw [hg' j b] at hx;exact h.sts j x hx
 .
  have hx0:gs[0]? =some x:=by
   by_cases b:0=i
   .rw [<-b,getElem?_setIfInBounds_self_of_lt (by grind)] at hx;cases hx;obtain⟨_,_,_,_,e⟩:=hgp;cases e
   simp_all
  have hx1':gs[i1]? =some x1:=by
   by_cases b:i1=i
   .rw [b,getElem?_setIfInBounds_self_of_lt (by grind)] at hx1;cases hx1;obtain⟨_,_,_,e⟩:=hr1;cases e
   simp_all
  exact h.pp x hx0 hgp i1 x1 hp1 hx1' hr1
theorem UQ{Gd:Machine->Trace->Prop}(hG:Gl P T Gd)(hlp:Gs P p T):∀r0:Rk,Acc Rk.lt r0->∀(n:Nat) (sg:Nat->Ph) (rk:Nat->Rk) (k:Nat->Nat) (A Z:Nat->Nat->Prop) (q:dV) (gs:Array Goroutine) (w:World) (t:Trace) (sl:Option (Nat×Nat)),CW P p T n sg rk k A Z q gs w t->rk 0=r0->Gd (crowd gs w sl) t:=by
 intro r0 ha0
 induction ha0 with
 |intro r0 _ ih0=>
 have key:∀(n:Nat) (s0:Nat->Option Rk),Acc (Dn Tn n) s0->∀N,∀(sg:Nat->Ph) (rk:Nat->Rk) (k:Nat->Nat) (A Z:Nat->Nat->Prop) (q:dV) (gs:Array Goroutine) (w:World) (t:Trace) (sl:Option (Nat×Nat)),CW P p T n sg rk k A Z q gs w t->rk 0=r0->(∀j,j < n->Sb Tn (OZ sg rk j) (s0 j))->(n+1) * aL k n+aL (Ff gs) n≤N->Gd (crowd gs w sl) t:=by
  intro n s0 h0
  induction h0 with
  |intro s0 _ ih1=>
  intro N
  induction N using Nat.strongRecOn with
  |_ N ih2=>
  intro sg rk k A Z q gs w t sl h hr0 hb hN
  have haw:∀g∈gs,awake g:=λg hg=>by
   obtain⟨j,hj,rfl⟩:=Array.getElem_of_mem hg;exact(h.sts j _ (Array.getElem?_eq_getElem hj)).awake
  obtain⟨i,g,d,sl',hi,hg,hst⟩:=crowd_pick (P:=P) (w:=w) (sl:=sl) haw h.movable;have hd:=h.at d;have hin:i < n:=h.lt hi
  have go:∀(r':Rk) (sg':Nat->Ph) (k':Nat->Nat) (A' Z':Nat->Nat->Prop) (q':dV) (gs':Array Goroutine) (w':World) (t':Trace) (sl1:Option (Nat×Nat)),(sg i).q=false->(∀j,j≠i->(sg' j).q=(sg j).q)->((sg' i).q=false->Rk.lt r' (rk i))->CW P p T n sg' (upd rk i r') k' A' Z' q' gs' w' t'->Gd (crowd gs' w' sl1) t':=by
   intro r' sg' k' A' Z' q' gs' w' t' sl1 hq hqs hl hcw;rcases eq_zero_or_pos i with e |hp
   .subst e;exact ih0 r' (hr0▸hl ((hcw.bk.ok 0 hcw.bk.n0).main rfl).2.2.2.2.1) n sg' _ k' A' Z' q' gs' w' t' sl1 hcw bC
   .have hne0:i≠0:=by omega
    refine ih1 (OZ sg' (upd rk i r')) ⟨i,hin,?_,λj hj hne=>?_⟩ _ sg' _ k' A' Z' q' gs' w' t' sl1 hcw ?_ (λ_ _=>Sb.refl _) (Nat.le_refl _)
    .refine hb i hin _ ?_;have e1:OZ sg rk i=some (rk i):=by unfold OZ;simp_all
     rw [e1];unfold OZ;by_cases hq':(sg' i).q=true
     .rw [if_pos (.inr hq')];trivial
     .rw [if_neg (by simp_all),bC];exact hl (by simp_all)
    .grind [OZ,upd,bz]
    grind [bz]
  have goA:∀{fr:Frame} {cs:List Frame},gs[i]? =some (Gr fr cs)->(sg i).q=false->GI P p (yz P p T (rk i)) (i == 0) (sg i) fr cs ⟨w.at d,A i,Z i⟩ q->Gd (crowd gs w sl) t:=by
   intro fr cs hi hq hA;obtain⟨s',q',fr',cs',w',es,h1,h2,h3,h4,h5,h5',h6,h7⟩:=hA;have hgo:=runT_crowd_go (sl:=sl') hi h1;rw [<-hst] at hgo;refine hG.next _ _ _ _ hgo ?_;cases hq':s'.q with
   |false=>
    obtain⟨_,_,_,h6⟩:=h6 hq';obtain⟨r',hl,hw⟩:=ti h6;obtain⟨k',hcw⟩:=hd.act (fr:=fr) hi rfl hq h2 h3 h4 h5 h5' (λ_=>hw) h7;grind [bz]
   |true=>
    obtain⟨k',hcw⟩:=hd.act (r':=rk i) (fr:=fr) hi rfl hq h2 h3 h4 h5 h5' (λe=>by simp_all) h7;grind [bz,bC]
  have goR:∀{fr:Frame} {cs:List Frame} {z:Value},(sg i).q=false->stepG P (i == 0) g (w.at d)= .comm (Gr fr cs) #[rcase p.bc z] true (.recv true) (w.at d) #[]->g.frame=fr->Gq P p (yz P p T (rk i)) (i == 0) (sg i) ⟨w.at d,A i,Z i⟩ fr cs z->Gd (crowd gs w sl) t:=by
   intro fr cs z hq hs hf hz;cases hcl:q.cl with
   |true=>
    obtain⟨r1,gs',ops,hl,hgo,hcw,_,hp⟩:=hd.closed (sl:=sl') hi hs hf hcl hz;rw [<-hst] at hgo;refine hG.next _ _ _ _ hgo ?_;grind [bz]
   |false=>
    by_cases hp:partners (gs.setIfInBounds i ph) p.bc true=[]
    .obtain⟨hgo,hcw,_⟩:=hd.parkR (sl:=sl') hi hs hcl hz hp;rw [<-hst] at hgo;refine hG.next _ _ _ _ hgo ?_;rw [append_empty];have:=xX (g':=parked (Gr fr cs) #[rcase p.bc z] (.recv true)) hi hg (by simp [parked]) hin;exact ih2 ((n+1) * aL k n+aL (Ff (gs.setIfInBounds i (parked (Gr fr cs) #[rcase p.bc z] (.recv true)))) n) (by omega) sg rk k A Z q _ _ t sl' hcw hr0 hb (Nat.le_refl _)
    .obtain⟨sg',rk',q',gs',w',ops,hl,hgo,hcw⟩:=hd.recv hlp (sl:=sl') hi hs hcl hz hp;rw [<-hst] at hgo;refine hG.next _ _ _ _ hgo ?_;grind
  cases hq:(sg i).q with
  |true=>
   have hqi:=(hd.sts i g hi).1 hq;cases hki:k i with
   |zero=>
    rw [hki] at hqi;have hqi:g.status= .finished:=hqi.1;simp_all
   |succ m=>
    rw [hki] at hqi;rcases hqi with hf |⟨_,g',es,hm,hw,hq'⟩
    .simp_all
    .have hi0:(i == 0)=false:=by
      have:i≠0:=λe=>by
       subst e;have:=((h.bk.ok 0 h.bk.n0).main rfl).2.2.2.2.1;simp_all
      simp_all
     have hgo:=runT_crowd_go (sl:=sl') hi (by rw [hi0];exact hw (w.at d));rw [<-hst] at hgo;refine hG.next _ _ _ _ hgo ?_;have hcw:=hd.quitStep (fn:=g.frame.fn) (pos:=g.frame.place) hi hq hm hq';have hu:=oP (k:=k) (x:=m) hin;have hr:=OY ((gs.map (Conc.woken P g g' (w.at d))).setIfInBounds i g') n;have he:aL k n=aL (upd k i m) n+1:=by omega
     rw [he,Nat.mul_add,Nat.mul_one] at hN;grind
  |false=>
   have hs:=(hd.sts i g hi).2 hq;cases hs with
   |blk hb h=>cases hg
   |rcv hc hz=>cases hg
   |snd hz=>cases hg
   | @rcd fr cs z hc hz=>
    refine goR hq ?_ rfl hz;rw [stepG_tries];exact hz.2.2.2.2.2.2.1 _
   | @run fr cs hw=>
    have hw0:vM P p T (rk i) (i == 0) (sg i) ⟨w,A i,Z i⟩ fr cs:=by
     cases(h.sts i _ hi).2 hq with
     |run h=>exact h
    obtain⟨_,hw'⟩:=Ou.1 hw;have hrf:=bu.refl ⟨w.at d,A i,Z i⟩;have hpre:my p (i == 0) (sg i) q:=⟨n,sg,i,hin,by simp,rfl,h.bk⟩;rcases hw' with h1 |h1 |⟨h0,h1⟩ |⟨z,h1⟩ |⟨x,z,h1⟩ |h1 |h1
    .obtain⟨fr',cs',w',es,k1,k2,k3,_,_,_,k4⟩:=h1 _ hrf hd.at_.kf;obtain⟨r',hl,hw⟩:=ti k4;have hgo:=runT_crowd_go (sl:=sl') hi k1;rw [<-hst] at hgo;refine hG.next _ _ _ _ hgo ?_;exact go r' _ _ _ _ _ _ _ _ _ hq (λ_ _=>rfl) (λ_=>hl) (hd.own hi rfl hq k2 k3 hw)
    .exact goA hi hq (h1 _ q hrf hd.at_ hpre)
    .obtain⟨k1,k2⟩:=h1 _ q hrf hd.at_ hpre;by_cases hblk:J6 (sg i) q
     .have hgo:=runT_crowd_go (sl:=sl') hi (k1 hblk);rw [Ag,ofEvents_none] at hgo;rw [<-hst] at hgo;refine hG.next _ _ _ _ hgo ?_;rw [append_empty];have hcw:=hd.block hi hq hblk hw;have:=xX (g':={ Gr fr cs with status:=.blocked }) hi hg (by simp) hin;exact ih2 ((n+1) * aL k n+aL (Ff (gs.setIfInBounds i { Gr fr cs with status:=.blocked })) n) (by omega) sg rk k A Z q _ _ t sl' hcw hr0 hb (Nat.le_refl _)
     simp_all
    .exact goR hq (h1.2.2.2.2.2.2.1 _) rfl h1
    .by_cases hp:partners (gs.setIfInBounds i ph) p.bc false=[]
     .obtain⟨hgo,hcw,_⟩:=hd.parkS (sl:=sl') hi (h1.2.2.2.2.2.2.2.2.2.1 _) h1 hp;rw [<-hst] at hgo;refine hG.next _ _ _ _ hgo ?_;rw [append_empty];have:=xX (g':=parked (Gr fr cs) #[scase p.bc x z] .send) hi hg (by simp [parked]) hin;exact ih2 ((n+1) * aL k n+aL (Ff (gs.setIfInBounds i (parked (Gr fr cs) #[scase p.bc x z] .send))) n) (by omega) sg rk k A Z q _ _ t sl' hcw hr0 hb (Nat.le_refl _)
     .obtain⟨sg',rk',q',gs',w',ops,hl,hgo,hcw⟩:=hd.send hlp (sl:=sl') hi (h1.2.2.2.2.2.2.2.2.2.1 _) h1 hp;rw [<-hst] at hgo;refine hG.next _ _ _ _ hgo ?_;grind
    .have hmn:=h1.2.1;have hi0:i=0:=by simp_all
     subst hi0;obtain⟨n',sg',rk',k',A',Z',gs',ops,hl,hgo,hcw⟩:=hd.spawn (sl:=sl') hi h1 hq;rw [<-hst] at hgo;refine hG.next _ _ _ _ hgo ?_;grind
    .obtain⟨hmn,hjn,hal,hdf,hdt,Z0,hT⟩:=h1;have hi0:i=0:=by grind
     subst hi0;have hT:=hT ⟨w,A 0,Z 0⟩ q (bu.drawn ⟨w.at d,A 0,Z 0⟩ w.drawn) h.at_ hpre;have hjk:=h.jn hjn;refine hG.fin _ _ _ hT gs sl t k ⟨hi,λj x hj hx=>?_,by rw [h.size];exact h.tr,⟨λj x b hx hb ha=>?_,λj hj=>?_⟩,(h.deaf 0 hin hq).trans hdf⟩
     .exact(h.sts j x hx).1 (h.bk.gone hal j hj (h.lt hx))
     .obtain⟨op,hop,hxa⟩:=touch_of hx;by_cases hbb:b=p.bm\/b=p.bk
      .exact hjk.2 j op hop (.inr ⟨x,b,hxa,hb,hbb⟩)
      .have ha0:¬A 0 b:=λe=>ha ⟨e,λe'=>hbb (.inl e'),λe'=>hbb (.inr e')⟩;by_cases hpl:x.kind= .plain
       .refine hjk.2 j op hop (.inl ⟨x,hx,?_,.inl (by grind)⟩);cases hl:x.loc <;> rw [hl] at hb <;> first |rfl |cases hb
       .exact h.knows 0 j x b hin hq hx hb ha0 (.inr (.inr hpl))
     .obtain⟨x,hx,_⟩:=id hj;obtain⟨op,hop,_⟩:=touch_of hx;exact hjk.2 j op hop (.inl hj)
 intro n sg rk k A Z q gs w t sl h hr
 exact key n (OZ sg rk) (Jh n _ λi _=>LI _) _ sg rk k A Z q gs w t sl h hr (λ_ _=>Sb.refl _) (Nat.le_refl _)
end
def OW(s:Ph)(i:Nat):Ph:=if i=0 then s else Ph.quit
theorem Q0{s:Ph}:OW s 0=s:=if_pos rfl
theorem ox{s:Ph}{i:Nat}(h:i≠0):OW s i=Ph.quit:=if_neg h
def aB(X Y:Nat->Prop)(i b:Nat):Prop:=if i=0 then X b else Y b
theorem Dh{X Y:Nat->Prop}:aB X Y 0=X:=by funext b;exact if_pos rfl
theorem F8{X Y:Nat->Prop}{i:Nat}(h:i≠0):aB X Y i=Y:=by funext b;exact if_neg h
section
variable {P:Program}{p:Gp}{T:Tq}
theorem AZ{Gd:Machine->Trace->Prop}(hG:Gl P T Gd)(hlp:Gs P p T){v:VW}{fr:Frame}{cs:List Frame}{gs:Array Goroutine}{sl:Option (Nat×Nat)}{t:Trace}{k:Nat->Nat}{s:Ph}{q:dV}(hok:p.Ok)(hL:yQ P v fr cs gs t k)(hA:∀b,v.A b->b < v.heap.size)(hZ:∀b,v.Z b->b < v.heap.size)(hZk:¬v.Z p.bk)
 (hat:p.At v q) (hown:∀b,p.sh b\/b=p.bk->¬v.A b) (hq:q={ f:=s.phi,cs:=q.cs,cl:=q.cl }) (hs:s={ phi:=s.phi,al:=s.al,jn:=true,op:=s.op }) (hop:s.op=true->q.cl=false) (hal:s.al=true)
 (h:Ww P p T true s ⟨v.toWorld,λb=>v.A b\/p.sh b\/b=p.bk,v.Z⟩ fr cs):Gd (crowd gs v.toWorld sl) t:=by
 obtain⟨r,hr⟩:=h
 obtain⟨h0,hqt,ht,hk,hd⟩:=hL
 have hn0:0 < gs.size:=(Array.getElem?_eq_some_iff.1 h0).1
 have hlt:∀c,p.sh c\/c=p.bk->c < v.heap.size:=λc hc=>by
  have hbk:p.bk < v.heap.size:=by
   obtain⟨o,ho,_⟩:=hat.mp (by rw [hq]);grind
  rcases hc with(rfl |⟨hcr,rfl |rfl⟩) |rfl
  .exact(Array.getElem?_eq_some_iff.1 hat.mu).1
  .exact(Array.getElem?_eq_some_iff.1 (hat.wg hcr)).1
  .exact(Array.getElem?_eq_some_iff.1 (hat.ch hcr)).1
  omega
 have s0:OW s 0=s:=Q0
 have hsum:∀f:Ph->Nat,f .quit=0->al gs.size (OW s) f=f s:=λf hf=>by
  have:∀n,0 < n->al n (OW s) f=f s:=by
   intro n
   induction n with
   |zero=>omega
   |succ n ih=>
    intro _;show al n _ f+f (OW s n)=f s;rcases eq_zero_or_pos n with e |e
    .subst e;rw [s0];exact Nat.zero_add _
    grind [ox]
  grind
 refine UQ hG hlp r (Do r) gs.size (OW s) (λ_=>r) k (aB (λb=>v.A b\/p.sh b\/b=p.bk) (λb=>b < v.heap.size)) (aB v.Z (λ_=>False)) q gs v.toWorld t sl ⟨rfl,ht,λi b hb=>?_,λi b hb=>?_,λi j b _ _ hne hb h1 h2=>?_,λi j x b _ ha hx hb hA _=>?_,λi j x b _ ha hx hb hs=>?_,λj x b hx hb hs _=>hk.own j x b hx hb (hown b (.inl hs)),λe i j x _ ha hx hb=>?_,λj op hop hc=>.inl ?_,λe=>⟨by grind,λj op hop hc=>?_⟩,λi hi hqi=>?_,λi g hg=>?_,hat,?_,λb hb i=>?_,hlt _ (.inr rfl),λi=>?_,λi hi=>?_,λg hg hgp=>?_,hok⟩ rfl
 .
  grind [Dh,F8]
 .
  by_cases e:i=0
  .rw [e,Dh] at hb;grind
  grind [F8]
 .
  grind [F8]
 .
  by_cases e:i=0
  .subst e;rw [Dh] at hA;exact hk.own j x b hx hb λe=>hA (.inl e)
  grind [ox]
 .
  by_cases e:i=0
  .subst e;exact .inl (hk.own j x b hx hb (hown b (.inl hs)))
  grind [ox]
 .
  by_cases e:i=0
  .subst e;exact .inl (hk.own j x _ hx hb (hown _ (.inr rfl)))
  grind [ox]
 .
  rcases hc with hc |⟨x,b,hxa,hb,hbb⟩
  .exact hk.cnt j hc
  .exact hk.own j x b (by grind [touchAt_of]) hb (hown b (hbb.elim (λe=>.inl (.inl e)) .inr))
 .
  rcases hc with hc |⟨x,b,hxa,hb,hbb⟩
  .exact hk.cnt j hc
  .exact hk.own j x b (by grind [touchAt_of]) hb (hown b (hbb.elim (λe=>.inl (.inl e)) .inr))
 .
  grind [ox]
 .
  by_cases e:i=0
  .subst e;rw [h0] at hg;cases hg;rw [s0];refine⟨λe=>(by grind),λ_=>.run ?_⟩;grind [Dh]
  .rw [ox e];exact⟨λ_=>hqt i g (by omega) hg,λe=>(by cases e)⟩
 .
  refine⟨?_,λ_=>⟨?_,?_,?_,?_⟩,λx=>?_,?_,λx=>?_,λx=>?_,λx=>?_,?_,?_,λx=>⟨?_,?_,?_,λ_ x=>?_⟩,λx=>?_,?_,?_,λi ow φ hi x=>?_,λi hi=>?_,⟨?_,?_⟩,λi hi=>?_,hn0,λB x=>?_,λ_ i hi hin=>?_⟩
  .grind
  .rw [hq]
  .rw [hq]
  .grind
  .grind
  .grind
  .grind
  .grind
  .grind
  .grind
  .grind
  .grind
  .grind
  .grind
  .grind
  .grind
  .grind
  .grind
  .grind
  .grind [ox]
  .by_cases e:i=0
   .grind
   .rw [ox e];grind
  .grind
  .grind
  .by_cases e:i=0
   .subst e;rw [s0,hs];exact⟨zero_le _,λx=>(by cases x),λ_=>rfl,λx=>(by cases x),Nat.le_refl _,λ_=>⟨rfl,rfl,rfl,rfl,rfl,rfl⟩,λx=>absurd x (Nat.lt_irrefl 0)⟩
   .rw [ox e];exact⟨zero_le _,λx=>(by cases x),λx=>(by cases x),λ_=>rfl,Nat.le_refl _,λx=>absurd x e,λ_ x=>(by cases x)⟩
  .grind
  grind [ox]
 .
  grind [Dh,F8]
 .
  by_cases e:i=0
  .rw [e,Dh];exact hZk
  grind [F8]
 .
  grind [Dh,F8,ox]
 .
  rw [h0] at hg;cases hg;obtain⟨_,_,_,_,e⟩:=hgp;cases e
end
structure Su where
 ac:Nat
 w1:Nat
 w2:Nat
 nw:Nat
 hd:Nat
 dt:Nat
 aw:Nat
 rn:Nat
 qu:Nat
 tk:Nat
 rh:Nat
 ty:Nat
 phi:Nat
 lv:Nat
def su(n:Nat)(sg:Nat->Ph):Su:=⟨al n sg Ph.ac,al n sg Ph.w1,al n sg Ph.w2,al n sg Ph.nw,al n sg Ph.hd,al n sg Ph.dt,al n sg Ph.aw,al n sg Ph.rn,al n sg Ph.qu,al n sg Ph.tk,al n sg Ph.rh,al n sg Ph.ty,al n sg Ph.phi,al n sg Ph.lv⟩
structure SV(a b:Su)(s s':Ph):Prop where
 ac:b.ac+s.ac=a.ac+s'.ac
 w1:b.w1+s.w1=a.w1+s'.w1
 w2:b.w2+s.w2=a.w2+s'.w2
 nw:b.nw+s.nw=a.nw+s'.nw
 hd:b.hd+s.hd=a.hd+s'.hd
 dt:b.dt+s.dt=a.dt+s'.dt
 aw:b.aw+s.aw=a.aw+s'.aw
 rn:b.rn+s.rn=a.rn+s'.rn
 qu:b.qu+s.qu=a.qu+s'.qu
 tk:b.tk+s.tk=a.tk+s'.tk
 rh:b.rh+s.rh=a.rh+s'.rh
 ty:b.ty+s.ty=a.ty+s'.ty
 phi:b.phi+s.phi=a.phi+s'.phi
 lv:b.lv+s.lv=a.lv+s'.lv
theorem SV.of{n i:Nat}{sg:Nat->Ph}{s':Ph}(h:i < n):SV (su n sg) (su n (upd sg i s')) (sg i) s':=
 ⟨fp h,fp h,fp h,fp h,fp h,fp h,fp h,fp h,fp h,fp h,fp h,fp h,fp h,fp h⟩
structure Ar(q:dV)(a:Su)(z:Ph):Prop where
 c:q.c=a.ac+z.pd
 un:z.rg=false->q.wt=0/\q.sm=0/\a.w1=0/\a.w2=0
 re:z.rg=true->z.pd=0/\(0 < q.c->q.wt=1/\q.sm=0/\a.w1=0/\a.w2=0)/\(q.c=0->q.wt=a.w1/\a.w1+a.w2+q.sm=1)
 pd:z.pd≤1
 rgc:z.rg=true\/z.cd=true->q.cl=true
 op:z.op=true->q.cl=false
 nw:q.cl=false->a.nw=z.sp
 le:q.L≤1/\q.W≤1/\q.S≤1
 hd:q.L=a.hd
 s0:q.S=0->q.W=a.aw+a.rn+q.T+a.tk/\a.qu=q.N+q.T+a.rn/\a.rh=0/\(q.L=0->0 < q.N->q.W=0->0 < a.ty)
 s1:q.S=1->q.W=0/\a.aw=0/\a.rn=0/\q.L+a.rh+q.T+a.tk=1/\a.qu+a.tk=q.N/\1≤q.N
 h:q.h=a.dt
 f:a.phi+2 * q.T≤q.f
 lv:a.lv≤z.sp+1/\z.sp≤100
 cb:∀B,z.cb=some B->q.c≤B
theorem Bk.ar{p:Gp}{n:Nat}{sg:Nat->Ph}{q:dV}(h:Bk p n sg q):Ar q (su n sg) (sg 0):=⟨h.c,h.un,h.re,h.pd,h.rgc,h.op,h.nw,h.le,h.hd,h.s0,h.s1,h.h,h.f,h.lv,h.cb⟩
structure Nx(a:Su)(s:Ph):Prop where
 ac:s.ac≤a.ac
 w1:s.w1≤a.w1
 w2:s.w2≤a.w2
 nw:s.nw≤a.nw
 hd:s.hd≤a.hd
 dt:s.dt≤a.dt
 aw:s.aw≤a.aw
 rn:s.rn≤a.rn
 qu:s.qu≤a.qu
 tk:s.tk≤a.tk
 rh:s.rh≤a.rh
 ty:s.ty≤a.ty
 phi:s.phi≤a.phi
 lv:s.lv≤a.lv
 dth:a.dt+s.hd≤a.hd+s.dt
theorem Nx.of{p:Gp}{q:dV}{n i:Nat}{sg:Nat->Ph}(hb:Bk p n sg q)(h:i < n):Nx (su n sg) (sg i):=⟨jZ h,jZ h,jZ h,jZ h,jZ h,jZ h,jZ h,jZ h,jZ h,jZ h,jZ h,jZ h,jZ h,jZ h,by
 have h1:=fp (sg:=sg) (f:=Ph.dt) (s:=Ph.quit) h
 have h2:=fp (sg:=sg) (f:=Ph.hd) (s:=Ph.quit) h
 have h3:al n (upd sg i .quit) Ph.dt≤al n (upd sg i .quit) Ph.hd:=jw λj hj=>by
  by_cases ej:j=i
  .
   simp_all [bC,Nat.le_refl]
  .
   rw [bz ej];exact(hb.ok j hj).dt
 have e1:Ph.quit.dt=0:=rfl
 have e2:Ph.quit.hd=0:=rfl
 show al n sg Ph.dt+_≤al n sg Ph.hd+_
 omega⟩
theorem my.get{p:Gp}{mn:Bool}{s:Ph}{q:dV}(h:my p mn s q):∃a z,Ar q a z/\Nx a s/\(mn=true->z=s)/\(∀ow φ,s.se=some (ow,φ)->q.f≤φ/\(q.f=φ->q.word=ow))/\s.nb≤q.N/\(s.nb=0\/(q.S=1/\s.tk=1))/\q.N≤101/\q.T≤1/\q.c≤102/\q.wt≤1/\q.sm≤1:=by
 obtain⟨n,sg,i,hi,hm,rfl,hb⟩:=h;exact⟨su n sg,sg 0,hb.ar,Nx.of hb hi,λe=>by rw [hm.1 e],λow φ=>hb.se i ow φ hi,(hb.nb i hi).1,(hb.nb i hi).2,hb.small.1,hb.small.2,hb.cs.1,hb.cs.2.1,hb.cs.2.2⟩
theorem Sv.mk{p:Gp}{mn:Bool}{s s':Ph}{q q':dV}
 (hA:∀a b z,Ar q a z->Nx a s->SV a b s s'->(mn=true->z=s)->(mn=false->s.ac+s.w1+s.w2=1)->(∀ow φ,s.se=some (ow,φ)->q.f≤φ/\(q.f=φ->q.word=ow))->s.nb≤q.N->(s.nb=0\/(q.S=1/\s.tk=1))->Ar q' b (if mn=true then s' else z))
 (hs:s.q=false) (hf:q'.f < q.f\/(q'.f=q.f/\q'.word=q.word))
 (hse:∀ow φ,s'.se=some (ow,φ)->q'.f≤φ/\(q'.f=φ->q'.word=ow)\/(s.se=some (ow,φ)))
 (hnb:∀x:Ph,x.nb≤q.N->(x.nb=0\/(q.S=1/\x.tk=1))->(q.S=1->x.tk+s.tk+q.L≤1)->x.nb≤q'.N/\(x.nb=0\/(q'.S=1/\x.tk=1)))
 (hnb':∀a z,Ar q a z->Nx a s->s.nb≤q.N->s'.nb≤q'.N/\(s'.nb=0\/(q'.S=1/\s'.tk=1)))
 (hok:∀i,(mn=true↔i=0)->s.Ok i->s'.Ok i)
 (hal:mn=true->s'.al=true->s.al=true\/∀a,Ar q a s->a.ac=0/\a.w1=0/\a.w2=0):Sv p mn s q s' q':=by
 intro n sg i hi hm he hb
 subst he
 have hbk:∀j,j≠i->upd sg i s' j=sg j:=λj hj=>bz hj
 have hfn:∀ow φ,(q.f≤φ/\(q.f=φ->q.word=ow))->q'.f≤φ/\(q'.f=φ->q'.word=ow):=λow φ ⟨h1,h2⟩=>by
  omega
 have ha:=hA (su n sg) (su n (upd sg i s')) (sg 0) hb.ar (Nx.of hb hi) (SV.of hi) (λe=>by rw [hm.1 e]) (λe=>((hb.ok i hi).work (by
  grind) hs).1) (λow φ=>hb.se i ow φ hi) (hb.nb i hi).1 (hb.nb i hi).2
 have hz:upd sg i s' 0=if mn=true then s' else sg 0:=by
  cases hmn:mn with
  |true=>rw [if_pos rfl,<-hm.1 hmn,bC]
  |false=>grind
 rw [<-hz] at ha
 refine⟨ha.c,ha.un,ha.re,ha.pd,ha.rgc,ha.op,ha.nw,ha.le,ha.hd,ha.s0,ha.s1,ha.h,ha.f,λj ow φ hj hx=>?_,λj hj=>?_,ha.lv,λj hj=>?_,hb.n0,ha.cb,λhx j hj hjn=>?_⟩
 .
  by_cases e:j=i
  .subst e;rw [bC] at hx;rcases hse ow φ hx with h1 |h1
   .exact h1
   .exact hfn ow φ (hb.se j ow φ hj h1)
  .rw [hbk j e] at hx;exact hfn ow φ (hb.se j ow φ hj hx)
 .
  by_cases e:j=i
  .subst e;rw [bC];exact hnb' _ _ hb.ar (Nx.of hb hj) (hb.nb j hj).1
  .rw [hbk j e];refine hnb _ (hb.nb j hj).1 (hb.nb j hj).2 λhS=>?_;have h1:=Jr (sg:=sg) (f:=Ph.tk) hj hi e;have h2:=hb.s1 hS;omega
 .
  by_cases e:j=i
  .subst e;rw [bC];exact hok j hm (hb.ok j hj)
  .rw [hbk j e];exact hb.ok j hj
 .
  by_cases e:i=0
  .have hmn:=hm.2 e;subst e;rw [bC] at hx;rw [hbk j (by omega)];rcases hal hmn hx with h1 |h1
   .exact hb.gone h1 j hj hjn
   .obtain⟨h2,h3,h4⟩:=h1 _ hb.ar;have h5:=yL (sg:=sg) (f:=Ph.ac) h2 hjn;have h6:=yL (sg:=sg) (f:=Ph.w1) h3 hjn;have h7:=yL (sg:=sg) (f:=Ph.w2) h4 hjn;cases hq:(sg j).q with
    |true=>rfl
    |false=>have:=((hb.ok j hjn).work hj hq).1;omega
  .rw [hbk 0 (λe'=>e e'.symm)] at hx;have:=hb.gone hx i (by omega) hi;simp_all
theorem lj{P:Program}{fn:FuncId}:seen P fn #[]= #[]:=by simp [seen]
theorem vf{b:Frame}:(if b.kind == .early then(#[]:Array Event) else #[])= #[]:=by simp_all
def Mv(P:Program)(Wl:World->Prop)(main:Bool)(T:Tq):Prop:=∀v fr fr' cs cs',(∀w:World,Wl w->stepG P main (Gr fr cs) w= .go (Gr fr' cs') w #[])->T v fr' cs'->T v fr cs
abbrev Gv:=List (Nat×Value)
def lv:Gv->Nat->Option Value
 |[],_=>none
 |(s,x)::l,k=>if s=k then some x else lv l k
def ev(Γ:Gv):Operand->Option Value
 | .tmp s=>lv Γ s
 | .const x=>some x
 | .func f=>some (.func (.func f) #[] #[])
 |_=>none
structure QS(N:Nat)(df:List Deferred)(Γ:Gv)(a:Act):Prop where
 size:a.tmps.size=N
 defers:a.defers=df
 val:∀s x,lv Γ s=some x->a.tmps.getD s undef=x
theorem QS.ev{N:Nat}{df:List Deferred}{Γ:Gv}{a:Act}(h:QS N df Γ a){x:Operand}{u:Value}(e:ev Γ x=some u):a.eval x=u:=by
 cases x with
 |tmp s=>exact h.val s u e
 |const x=>cases e;rfl
 |func f=>cases e;rfl
 |global g=>cases e
theorem QS.put{N:Nat}{df:List Deferred}{Γ:Gv}{a:Act}(h:QS N df Γ a){d:Nat}{x:Value}(hd:blt d N=true):QS N df ((d,x)::Γ) (a.put (some d) x):=by
 have hd:=blt_eq▸hd;refine⟨by simpa [Act.put] using h.size,by simpa [Act.put] using h.defers,λs y hl=>?_⟩;rw [lE (by rw [h.size];exact hd)];simp only [lv] at hl;split at hl
 .simp_all
 .rename_i e;rw [if_neg e];exact h.val s y hl
def Qt(T:Tq)(v:VW)(b:Frame)(cs:List Frame)(N:Nat)(df:List Deferred)(its:List Item)(Γ:Gv):Prop:=∀a,QS N df Γ a->T v (b.at a its) cs
def Qr(T:Tq)(v:VW)(b:Frame)(cs:List Frame)(N:Nat)(df:List Deferred)(Γ:Gv):Prop:=∀a todo,QS N df Γ a->T v { b.at a todo with mode:=.returning } cs
def OV(P:Program)(Wl:World->Prop)(o:Oper)(Γ:Gv)(x:Value):Prop:=∀(N:Nat) (df:List Deferred) (a:Act),QS N df Γ a->∀w:World,Wl w->(execOp a.eval o).runT P w #[]=(.ok (.value x) w, #[])
section
variable {P:Program}{Wl:World->Prop}{main:Bool}{T:Tq}{v:VW}{b:Frame}{cs:List Frame}{N:Nat}{df:List Deferred}{Γ:Gv}{k:List Item}{x y:Code}
theorem Qt.seq(hT:Mv P Wl main T)(h:Qt T v b cs N df (.code x:: .code y::k) Γ):Qt T v b cs N df (.code (.seq x y)::k) Γ:=λa ha=>hT _ _ _ _ _ (λ_ _=>stepG_seq) (h a ha)
theorem Qt.skip(hT:Mv P Wl main T)(h:Qt T v b cs N df k Γ):Qt T v b cs N df (.code .skip::k) Γ:=λa ha=>hT _ _ _ _ _ (λ_ _=>stepG_skip) (h a ha)
theorem Qt.cond(hT:Mv P Wl main T){c:Operand}(t:Bool)(h:Qt T v b cs N df (.code (if t then x else y)::k) Γ)(hc:ev Γ c=some (.bool t):=by exact rfl):Qt T v b cs N df (.code (.cond c x y)::k) Γ:=λa ha=>hT _ _ _ _ _ (λ_ _=>stepG_cond (ha.ev hc)) (h a ha)
theorem Qt.block(hT:Mv P Wl main T){id:Nat}(h:Qt T v b cs N df (.code x:: .inBlock id::k) Γ):Qt T v b cs N df (.code (.block id x)::k) Γ:=λa ha=>hT _ _ _ _ _ (λ_ _=>stepG_block) (h a ha)
theorem Qt.inBlock(hT:Mv P Wl main T){id:Nat}(h:Qt T v b cs N df k Γ):Qt T v b cs N df (.inBlock id::k) Γ:=λa ha=>hT _ _ _ _ _ (λ_ _=>stepG_inBlock) (h a ha)
theorem Qt.loop(hT:Mv P Wl main T)(h:Qt T v b cs N df (.code x:: .inLoop x::k) Γ):Qt T v b cs N df (.code (.loop x)::k) Γ:=λa ha=>hT _ _ _ _ _ (λ_ _=>stepG_loop) (h a ha)
theorem Qt.inLoop(hT:Mv P Wl main T)(h:Qt T v b cs N df (.code x:: .inLoop x::k) Γ):Qt T v b cs N df (.inLoop x::k) Γ:=λa ha=>hT _ _ _ _ _ (λ_ _=>stepG_inLoop) (h a ha)
theorem Qt.exit(hT:Mv P Wl main T){id:Nat}{k':List Item}(he:exitTo id k=some k')(h:Qt T v b cs N df k' Γ):Qt T v b cs N df (.code (.exit id)::k) Γ:=λa ha=>hT _ _ _ _ _ (λ_ _=>stepG_exit he) (h a ha)
theorem Qt.region(hT:Mv P Wl main T){id:Nat}{ops:Array Oper}(h:Qt T v b cs N df (.inRegion ops (List.range ops.size)::k) Γ):Qt T v b cs N df (.code (.region id ops false)::k) Γ:=λa ha=>hT _ _ _ _ _ (λ_ _=>stepG_region) (h a ha)
theorem mr(hT:Mv P Wl main T){ops:Array Oper}(h:Qt T v b cs N df k Γ):Qt T v b cs N df (.inRegion ops []::k) Γ:=λa ha=>hT _ _ _ _ _ (λ_ _=>stepG_region_end) (h a ha)
theorem Qt.ret(hT:Mv P Wl main T)(h:Qr T v b cs N df Γ):Qt T v b cs N df (.code .ret::k) Γ:=λa ha=>hT _ _ _ _ _ (λ_ _=>stepG_ret') (h a _ ha)
theorem Qt.fin(hT:Mv P Wl main T)(h:Qr T v b cs N df Γ):Qt T v b cs N df [] Γ:=λa ha=>hT _ _ _ _ _ (λ_ _=>stepG_end) (h a _ ha)
theorem IZ{ops:Array Oper}{i:Nat}{rest:List Nat}{o:Oper}{a:Act}{u:Value}{w:World}(ho:ops[i]? =some o)(hw:Region.wanted o (yielded ops a.tmps)=true)(hk:b.kind≠.early)(hr:(execOp a.eval o).runT P w #[]=(.ok (.value u) w, #[])):
 stepG P main (G (b.at a (.inRegion ops (i::rest)::k)) cs) w= .go (G (b.at (a.put o.dst u) (.inRegion ops rest::k)) cs) w #[]:=by
 have h1:(execOp a.eval o).run P w= .ok (.value u) w:=by simp_all
 have h2:(execOp a.eval o).events P w #[]= #[]:=by simp_all
 rw [stepG_value ho hw hk h1]
 simp_all [listed,lj]
theorem CJ{a:Act}{s:Nat}{x:Value}(h:a.tmps.getD s undef=x)(hx:x≠undef):a.tmps[s]? =some x:=by
 rw [getD_eq_getD_getElem?] at h;grind
theorem Qt.op(hT:Mv P Wl main T){ops:Array Oper}{i d:Nat}{rest:List Nat}{o:Oper}{u:Value}(ho:ops[i]? =some o)(hop:OV P Wl o Γ u)(h:Qt T v b cs N df (.inRegion ops rest::k) ((d,u)::Γ))(hg:o.guard=none:=by exact rfl)(hd:o.dst=some d:=by exact rfl)(hN:blt d N=true:=by exact rfl)(hk:b.kind≠.early:=by exact λh=>nomatch h):
 Qt T v b cs N df (.inRegion ops (i::rest)::k) Γ:=λa ha=>
 hT _ _ _ _ _ (λw hl=>IZ ho (ag hg _) hk (hop N df a ha w hl)) (by rw [hd];exact h _ (ha.put hN))
theorem cy(hT:Mv P Wl main T){ops:Array Oper}{i d j s:Nat}{g:Bool}{rest:List Nat}{o oj:Oper}{u:Value}(ho:ops[i]? =some o)(hop:OV P Wl o Γ u)(h:Qt T v b cs N df (.inRegion ops rest::k) ((d,u)::Γ))(hg:o.guard=some (j,g):=by exact rfl)(hj:ops[j]? =some oj:=by exact rfl)(hs:oj.dst=some s:=by exact rfl)(hl:lv Γ s=some (.bool g):=by exact rfl)(hd:o.dst=some d:=by exact rfl)(hN:blt d N=true:=by exact rfl)(hk:b.kind≠.early:=by exact λh=>nomatch h):
 Qt T v b cs N df (.inRegion ops (i::rest)::k) Γ:=λa ha=>by
 have hw:Region.wanted o (yielded ops a.tmps)=true:=by
  unfold Region.wanted yielded;rw [hg];simp [hj,hs,CJ (ha.val s _ hl) (by simp [undef])]
 exact hT _ _ _ _ _ (λw hl'=>IZ ho hw hk (hop N df a ha w hl')) (by rw [hd];exact h _ (ha.put hN))
theorem bR(hT:Mv P Wl main T){ops:Array Oper}{i d j s:Nat}{g c:Bool}{rest:List Nat}{o oj:Oper}(ho:ops[i]? =some o)(h:Qt T v b cs N df (.inRegion ops rest::k) ((d,undef)::Γ))(hg:o.guard=some (j,g):=by exact rfl)(hj:ops[j]? =some oj:=by exact rfl)(hs:oj.dst=some s:=by exact rfl)(hl:lv Γ s=some (.bool c):=by exact rfl)(hc:(c == g)=false:=by exact rfl)(hd:o.dst=some d:=by exact rfl)(hN:blt d N=true:=by exact rfl):
 Qt T v b cs N df (.inRegion ops (i::rest)::k) Γ:=λa ha=>by
 have hw:Region.wanted o (yielded ops a.tmps)=false:=by
  unfold Region.wanted yielded;rw [hg];have:=CJ (ha.val s _ hl) (by simp [undef]);simp_all
 refine hT _ _ _ _ _ (λw _=>stepG_unwanted ho hw) ?_
 rw [hd];exact h _ (ha.put hN)
theorem OV.of{o:Oper}{u:Value}(_:nd o.op=true)(h:∀(N:Nat) (df:List Deferred) (a:Act),QS N df Γ a->∀w:World,Wl w->(execOp a.eval o).runT P w #[]=(.ok (.value u) w, #[])):OV P Wl o Γ u:=h
variable {o:Oper}{p q r:Operand}{TT T':TypeId}{u u':Value}
theorem dO(ho:o.op= .move p)(e:ev Γ p=some u):OV P Wl o Γ u:=.of (by simp [nd,ho]) λN df a ha w hl=>by simp [execOp,ho,ha.ev e]
theorem uu(ho:o.op= .assign p)(e:ev Γ p=some u):OV P Wl o Γ u:=.of (by simp [nd,ho]) λN df a ha w hl=>by simp [execOp,ho,ha.ev e]
theorem dW(ho:o.op= .pick p q r)(t:Bool)(e:ev Γ p=some (.bool t))(e':ev Γ (if t then q else r)=some u):OV P Wl o Γ u:=.of (by simp [nd,ho]) λN df a ha w hl=>by
 have h1:=ha.ev e
 cases t
 .
  have h2:a.eval r=u:=ha.ev (by simp_all)
  simp_all [execOp,asBool]
 .
  have h2:a.eval q=u:=ha.ev (by simp_all)
  simp_all [execOp,asBool]
def iQ(b:BinOp)(k:IntKind)(n m:Int):Option Value:=match b with
 | .add=>some (.int k (k.wrap (n+m)))
 | .sub=>some (.int k (k.wrap (n - m)))
 | .lss=>some (.bool (decide (n < m)))
 | .leq=>some (.bool (decide (n≤m)))
 | .gtr=>some (.bool (decide (m < n)))
 | .eql=>some (.bool (decide (n=m)))
 | .neq=>some (.bool (!decide (n=m)))
 | .and=>some (.int k (qD k n m))
 | .or=>some (.int k (D8 k n m))
 | .andNot=>some (.int k (IS k n m))
 |_=>none
theorem aY{b:BinOp}{k:IntKind}{n m:Int}(ho:o.op= .binOp b TT p q T')(e1:ev Γ p=some (.int k n))(e2:ev Γ q=some (.int k m))(hr:iQ b k n m=some u):OV P Wl o Γ u:=.of (by simp [nd,ho]) λN df a ha w hl=>by
 have h1:=ha.ev e1
 have h2:=ha.ev e2
 have hne:(n != m)= !decide (n=m):=by grind
 have heq:(n == m)=decide (n=m):=by grind
 cases b <;> simp only [iQ,Option.some.injEq,reduceCtorEq] at hr <;> subst hr <;> simp [execOp,ho,h1,h2,eqGuard,binOp,Op.intArith,Op.intCmp,Op.intBits,qD,D8,IS,hne,heq]
theorem QU{k k':IntKind}{n m:Int}(ho:o.op= .binOp .shl TT p q T')(e1:ev Γ p=some (.int k n))(e2:ev Γ q=some (.int k' m))(h:0≤m):OV P Wl o Γ (.int k (oO k n m)):=.of (by simp [nd,ho]) λN df a ha w hl=>by
 simp [execOp,ho,ha.ev e1,ha.ev e2,eqGuard,binOp,Op.shift,oO,show¬m < 0 by omega]
theorem QT{k k':IntKind}{n m:Int}(ho:o.op= .binOp .shr TT p q T')(e1:ev Γ p=some (.int k n))(e2:ev Γ q=some (.int k' m))(h:0≤m):OV P Wl o Γ (.int k (iu k n m)):=.of (by simp [nd,ho]) λN df a ha w hl=>by
 simp [execOp,ho,ha.ev e1,ha.ev e2,eqGuard,binOp,Op.shift,iu,show¬m < 0 by omega]
theorem NU{t:Bool}(ho:o.op= .unOp .not TT p)(e:ev Γ p=some (.bool t)):OV P Wl o Γ (.bool !t):=.of (by simp [nd,ho]) λN df a ha w hl=>by
 simp [execOp,ho,ha.ev e,Op.unary]
theorem OI{k k':IntKind}{n:Int}(ho:o.op= .convert TT T' p)(hT:P.underlying TT=some (.int k))(hT':P.underlying T'=some (.int k'))(e:ev Γ p=some (.int k n)):OV P Wl o Γ (.int k' (k'.wrap n)):=.of (by simp [nd,ho]) λN df a ha w hl=>by
 simp [execOp,ho,ha.ev e,convert,run_underlying hT,run_underlying hT',Conv.intToInt]
theorem jK{ad:Addr}(ho:o.op= .convert TT T' p)(hc:∀w,Wl w->(convert TT T' (.pointer (some ad))).runT P w #[]=(.ok (.pointer (some ad)) w, #[]))(e:ev Γ p=some (.pointer (some ad))):OV P Wl o Γ (.pointer (some ad)):=.of (by simp [nd,ho]) λN df a ha w hl=>by
 have h1:Sem.run P (convert TT T' (.pointer (some ad))) w= .ok (.pointer (some ad)) w:=by simp_all
 have h2:Sem.events P (convert TT T' (.pointer (some ad))) w #[]= #[]:=by simp_all
 simp [execOp,ho,ha.ev e,h1,h2]
theorem gi{ad:Addr}(ho:o.op= .nilCheck p)(e:ev Γ p=some (.pointer (some ad))):OV P Wl o Γ (.pointer (some ad)):=.of (by simp [nd,ho]) λN df a ha w hl=>by
 simp [execOp,ho,ha.ev e]
theorem bF{b off f k:Nat}(ho:o.op= .fieldAddr TT p f)(hf:∀w:World,(Instr.fieldAt TT (.pointer (some ⟨b,off,none⟩)) f).runT P w #[]=(.ok (.pointer (some ⟨b,off+k,none⟩)) w, #[]))(e:ev Γ p=some (.pointer (some ⟨b,off,none⟩))):OV P Wl o Γ (.pointer (some ⟨b,off+k,none⟩)):=.of (by simp [nd,ho]) λN df a ha w hl=>by
 have h1:Sem.run P (Instr.fieldAt TT (.pointer (some ⟨b,off,none⟩)) f) w= .ok (.pointer (some ⟨b,off+k,none⟩)) w:=by simp_all
 have h2:Sem.events P (Instr.fieldAt TT (.pointer (some ⟨b,off,none⟩)) f) w #[]= #[]:=by simp_all
 simp [execOp,ho,ha.ev e,h1,h2]
end
def Wd(P:Program)(Wl:World->Prop)(main:Bool)(es:Array Event)(T T':Tq):Prop:=∀v fr fr' cs cs',(∀w:World,Wl w->stepG P main (Gr fr cs) w= .go (Gr fr' cs') w es)->T' v fr' cs'->T v fr cs
def ent:Nat->List Value->Gv
 |_,[]=>[]
 |i,x::l=>(i,x)::ent (i+1) l
theorem PV{cZ:List Value}{s:Nat}{x:Value}:∀{i:Nat},lv (ent i cZ) s=some x->i≤s/\cZ[s - i]? =some x:=by
 induction cZ with
 |nil=>intro i h;cases h
 |cons y l ih=>
  intro i h;simp only [ent,lv] at h;grind
theorem QS.enter{cZ:List Value}{N:Nat}(h:cZ.length≤N):QS N [] (ent 0 cZ) { tmps:=cZ.toArray++Array.replicate (N - cZ.toArray.size) undef,defers:=[] }:=by
 refine⟨by simp;omega,rfl,λs x hl=>?_⟩;obtain⟨_,h2⟩:=PV hl;have hlt:s < cZ.length:=(List.getElem?_eq_some_iff.1 (by omega)).1;simp only [getD_eq_getD_getElem?];grind
section
variable {P:Program}{Wl:World->Prop}{main:Bool}{T T':Tq}{v:VW}{b:Frame}{cs:List Frame}{N:Nat}{df:List Deferred}{Γ:Gv}{k:List Item}{x y:Code}
variable {ops:Array Oper}{i d f:Nat}{rest:List Nat}{o:Oper}{fn:Func}{C:Code}{xs:Array Operand}{ts:Array TypeId}{cZ:List Value}
theorem Ei{a:Act}(ha:QS N df Γ a):∀{xs:List Operand} {cZ:List Value},xs.map (ev Γ)=cZ.map some->xs.map a.eval=cZ
 |[],[],_=>rfl
 |x::xs,[],h=>by cases h
 |[],_::_,h=>by cases h
 |x::xs,u::us,h=>by
  simp only [map_cons,List.cons.injEq] at h
  rw [map_cons,ha.ev h.1,Ei ha h.2]
theorem yJ{a:Act}(ha:QS N df Γ a)(h:xs.toList.map (ev Γ)=cZ.map some):xs.map a.eval=cZ.toArray:=by
 have:=Ei ha h;grind
theorem Qt.call(hT:Mv P Wl main T)(ho:ops[i]? =some o)(hop:o.op= .call { callee:=.value (.func f),args:=xs,argTypes:=ts })(hf:P.funcs[f]? =some fn)(hname:(fn.name == "runtime.NumGoroutine")=false)(hb:fn.body=some C)(hxs:xs.toList.map (ev Γ)=cZ.map some)
 (h:∀c,(∀(T':Tq) v' u,Qt T' v' b cs N df (.inRegion ops rest::k) ((d,u)::Γ)->T' v' (c.finish u) cs)->Qt T v (base f) (c::cs) fn.ntmps [] [.code C] (ent 0 cZ)) (hlen:ble cZ.length fn.ntmps=true:=by exact rfl)
 (hg:o.guard=none:=by exact rfl) (hd:o.dst=some d:=by exact rfl) (hN:blt d N=true:=by exact rfl) (hk:b.kind≠.early:=by exact λh=>nomatch h):Qt T v b cs N df (.inRegion ops (i::rest)::k) Γ:=λa ha=>by
 have hm:=yJ ha hxs
 have ef:a.eval (.func f)= .func (.func f) #[] #[]:=rfl
 have hn:¬fn.name= "runtime.NumGoroutine" :=by simp_all
 have hr:∀w,(execOp a.eval o).run P w= .ok (.enter f cZ.toArray) w:=λw=>by
  unfold execOp
  simp [hop,resolve,Deferred.ofValue,ef,invoke,callFunc,hf,hn,hb,hm]
 have he:∀w,listed P b.fn a o w= #[]:=λw=>by
  unfold listed
  have:(execOp a.eval o).events P w #[]= #[]:=by
   unfold execOp;simp [hop,resolve,Deferred.ofValue,ef,invoke,callFunc,hf,hn,hb]
  rw [this,lj]
 refine hT _ _ _ _ _ (λw _=>by have:=stepG_enter (main:=main) (b:=b) (k:=k) (cs:=cs) (rest:=rest) ho (ag hg _) hk (hr w);rw [he w] at this;exact this) ?_
 rw [Conc.enter_at _ hf hb]
 exact h _ (λT' v' u hq=>by
  have hfin:(b.at a (.inRegion ops (i::rest)::k)).finish u=b.at (a.put o.dst u) (.inRegion ops rest::k):=by grind [Frame.finish_at]
  rw [hfin,hd];exact hq _ (ha.put hN)) _ (QS.enter (ble_eq▸hlen))
theorem ic{c:Frame}{s:Nat}{u:Value}(hT:Mv P Wl main T)(hn:b.kind= .normal)(hf:P.funcs[b.fn]? =some fn)(hr:fn.results= #[.tmp s])(hl:lv Γ s=some u)(h:T v (c.finish u) cs):Qr T v b (c::cs) N [] Γ:=λa todo ha=>by
 refine hT _ _ _ _ _ (λw _=>stepG_leave hn ha.defers hf (results_tmp hr _ P w) (events_results_tmp hr _ _)) ?_
 rw [ha.val s u hl]
 exact h
theorem dF{c:Frame}(hT:Mv P Wl main T)(hn:b.kind= .normal)(hf:P.funcs[b.fn]? =some fn)(hr:fn.results= #[])(h:T v (c.finish (.tuple #[])) cs):Qr T v b (c::cs) N [] Γ:=λa todo ha=>
 hT _ _ _ _ _ (λw _=>stepG_leave hn ha.defers hf (results_none hr _ P w) (events_results_none hr _ _)) h
theorem xE{c:Frame}(hT:Mv P Wl main T)(hn:b.kind= .deferred)(hf:P.funcs[b.fn]? =some fn)(hr:fn.results= #[])(hc:c.mode= .returning)(h:T v c cs):Qr T v b (c::cs) N [] Γ:=λa todo ha=>
 hT _ _ _ _ _ (λw _=>stepG_leave_deferred hn ha.defers hf (results_none hr _ P w) (events_results_none hr _ _) hc) h
theorem Qt.defer(hT:Mv P Wl main T)(ho:ops[i]? =some o)(hop:o.op= .defer { callee:=.value (.func f),args:=xs,argTypes:=ts })(hxs:xs.toList.map (ev Γ)=cZ.map some)(h:Qt T v b cs N (dcall f cZ.toArray::df) (.inRegion ops rest::k) Γ)
 (hg:o.guard=none:=by exact rfl) (hd:o.dst=none:=by exact rfl) (hk:b.kind≠.early:=by exact λh=>nomatch h):Qt T v b cs N df (.inRegion ops (i::rest)::k) Γ:=λa ha=>by
 refine hT _ _ _ _ _ (λw _=>stepG_defer ho (ag hg _) hk hop) ?_
 rw [hd,yJ ha hxs]
 refine h _ ⟨ha.size,?_,ha.val⟩
 show _::a.defers=_
 rw [ha.defers]
theorem Qr.enter(hT:Mv P Wl main T)(hf:P.funcs[f]? =some fn)(hname:(fn.name == "runtime.NumGoroutine")=false)(hb:fn.body=some C)(hlen:ble cZ.length fn.ntmps=true)
 (h:∀c,c.mode= .returning->(∀(T':Tq) v',Qr T' v' b cs N df Γ->T' v' c cs)->Qt T v (baseD f) (c::cs) fn.ntmps [] [.code C] (ent 0 cZ)):Qr T v b cs N (dcall f cZ.toArray::df) Γ:=λa todo ha=>by
 refine hT _ _ _ _ _ (λw _=>stepG_unwind_enter ha.defers hf hname hb) ?_
 exact h _ rfl (λT' v' hq=>hq ⟨a.tmps,df⟩ todo ⟨ha.size,rfl,ha.val⟩) _ (QS.enter (ble_eq▸hlen))
theorem Dp{es:Array Event}{u:Value}(hW:Wd P Wl main es T T')(ho:ops[i]? =some o)(hs:∀a,QS N df Γ a->∀w,Wl w->stepG P main (G (b.at a (.inRegion ops (i::rest)::k)) cs) w= .go (G (b.at (a.put o.dst u) (.inRegion ops rest::k)) cs) w es)
 (h:Qt T' v b cs N df (.inRegion ops rest::k) ((d,u)::Γ)) (hd:o.dst=some d:=by exact rfl) (hN:blt d N=true:=by exact rfl):Qt T v b cs N df (.inRegion ops (i::rest)::k) Γ:=λa ha=>
 hW _ _ _ _ _ (hs a ha) (by rw [hd];exact h _ (ha.put hN))
structure xG(P:Program)(f:Nat)(m:Mark):Prop where
 ex:∃fn,P.funcs[f]? =some fn/\(fn.name == "runtime.NumGoroutine")=false/\fn.body.isNone=true/\Extern.findNext fn=none/\Extern.find fn=some (λ_=>do mark m;pure Extern.Race.none_)
 ne:∀g,m≠.extern g
structure rW(P:Program)(f:Nat)(mk:Addr->Mark):Prop where
 ex:∃fn,P.funcs[f]? =some fn/\(fn.name == "runtime.NumGoroutine")=false/\fn.body.isNone=true/\Extern.findNext fn=none/\Extern.find fn=some (Extern.Race.marked mk)
 ne:∀a g,mk a≠.extern g
structure JL(P:Program)(f:Nat)(u:Value):Prop where
 ex:∃fn,P.funcs[f]? =some fn/\(fn.name == "runtime.NumGoroutine")=false/\fn.body.isNone=true/\Extern.findNext fn=none/\Extern.find fn=some (λ_=>pure u)
theorem iy{m:Mark}(hW:Wd P Wl main #[iR m] T T')(hM:xG P f m)(ho:ops[i]? =some o)(hop:o.op= .call { callee:=.value (.func f),args:=xs,argTypes:=ts })(h:Qt T' v b cs N df (.inRegion ops rest::k) ((d,.tuple #[])::Γ))
 (hg:o.guard=none:=by exact rfl) (hd:o.dst=some d:=by exact rfl) (hN:blt d N=true:=by exact rfl) (hk:b.kind≠.early:=by exact λh=>nomatch h):Qt T v b cs N df (.inRegion ops (i::rest)::k) Γ:=by
 obtain⟨⟨fn,h1,h2,h3,h4,h5⟩,h6⟩:=hM
 exact Dp hW ho (λa ha w _=>stepG_mark0 m h6 ho (ag hg _) hk hop h1 h2 h3 h4 h5) h hd hN
theorem oZ{mk:Addr->Mark}{x:Operand}{ad:Addr}(hW:Wd P Wl main #[iR (mk ad)] T T')(hM:rW P f mk)(ho:ops[i]? =some o)(hop:o.op= .call { callee:=.value (.func f),args:= #[x],argTypes:=ts })(hx:ev Γ x=some (.pointer (some ad)))(h:Qt T' v b cs N df (.inRegion ops rest::k) ((d,.tuple #[])::Γ))
 (hg:o.guard=none:=by exact rfl) (hd:o.dst=some d:=by exact rfl) (hN:blt d N=true:=by exact rfl) (hk:b.kind≠.early:=by exact λh=>nomatch h):Qt T v b cs N df (.inRegion ops (i::rest)::k) Γ:=by
 obtain⟨⟨fn,h1,h2,h3,h4,h5⟩,h6⟩:=hM
 exact Dp hW ho (λa ha w _=>stepG_markAt mk h6 ho (ag hg _) hk hop h1 h2 h3 h4 h5 (by simp [ha.ev hx])) h hd hN
theorem vy{u:Value}(hT:Mv P Wl main T)(hM:JL P f u)(ho:ops[i]? =some o)(hop:o.op= .call { callee:=.value (.func f),args:=xs,argTypes:=ts })(h:Qt T v b cs N df (.inRegion ops rest::k) ((d,u)::Γ))
 (hg:o.guard=none:=by exact rfl) (hd:o.dst=some d:=by exact rfl) (hN:blt d N=true:=by exact rfl) (hk:b.kind≠.early:=by exact λh=>nomatch h):Qt T v b cs N df (.inRegion ops (i::rest)::k) Γ:=by
 obtain⟨fn,h1,h2,h3,h4,h5⟩:=hM
 exact Dp hT ho (λa ha w _=>stepG_entry_pure u ho (ag hg _) hk hop h1 h2 h3 h4 h5) h hd hN
theorem Qr.mark{m:Mark}{us:Array Value}(hW:Wd P Wl main #[iR m] T T')(hM:xG P f m)(h:Qr T' v b cs N df Γ):Qr T v b cs N (dcall f us::df) Γ:=λa todo ha=>by
 obtain⟨⟨fn,h1,h2,h3,h4,h5⟩,h6⟩:=hM
 refine hW _ _ _ _ _ (λw _=>stepG_unwind_entry (v:=.tuple #[]) ha.defers h1 h2 h3 h4 h5 (by simp [Extern.Race.none_]) (by simp [iR]) (by
  intro x hx
  simp at hx
  subst hx
  exact⟨rfl,λg h=>h6 g (Loc.mark.inj h)⟩)) ?_
 exact h ⟨a.tmps,df⟩ todo ⟨ha.size,rfl,ha.val⟩
theorem qa{G G':Prop}(k:G')(h:G'->G:=by
 intro k
 repeat (first
  |refine Qt.seq hT ?_ |refine Qt.region hT ?_ |refine mr hT ?_ |refine Qt.op hT rfl (dO rfl rfl) ?_ |refine Qt.op hT rfl (uu rfl rfl) ?_ |refine Qt.skip hT ?_ |refine Qt.block hT ?_ |refine Qt.inBlock hT ?_)
 exact k):G:=h k
theorem qb{G G':Prop}(k:G')(h:G'->G:=by
 intro k
 repeat (first
  |refine Qt.seq hT ?_ |refine Qt.region hT ?_ |refine mr hT ?_ |refine Qt.op hT rfl (dO rfl rfl) ?_ |refine Qt.op hT rfl (uu rfl rfl) ?_ |refine Qt.skip hT ?_ |refine Qt.block hT ?_ |refine Qt.inBlock hT ?_
  |refine bR hT rfl ?_ |refine cy hT rfl (dO rfl rfl) ?_ |refine Qt.op hT rfl (aY (u:=.bool true) rfl rfl rfl rfl) ?_ |refine Qt.op hT rfl (aY (u:=.bool false) rfl rfl rfl rfl) ?_ |refine cy hT rfl (aY (u:=.bool true) rfl rfl rfl rfl) ?_ |refine cy hT rfl (aY (u:=.bool false) rfl rfl rfl rfl) ?_
  |refine Qt.op hT rfl (dW rfl true rfl rfl) ?_ |refine Qt.op hT rfl (dW rfl false rfl rfl) ?_ |refine Qt.cond hT true ?_ |refine Qt.cond hT false ?_ |refine Qt.op hT rfl (gi rfl rfl) ?_)
 exact k):G:=h k
def TQ(P:Program)(d:Nat):Tq:=λ_ fr cs=>∃m,QuitsD P m d (Gr fr cs)
theorem xy{d:Nat}:Mv P (λ_=>True) false (TQ P d):=λv fr fr' cs cs' hs ⟨m,hm⟩=>⟨m+1,.ctl rfl (λw=>hs w trivial) hm⟩
theorem SS{d:Nat}:Wd P (λ_=>True) false #[iR .enable] (TQ P (d+1)) (TQ P d):=λv fr fr' cs cs' hs ⟨m,hm⟩=>⟨m+1,.said (iR .enable) rfl rfl (λw=>hs w trivial) (by exact hm)⟩
end
end K
end Go.Proofs.YtflilincnacbpaaGreat
set_option linter.unusedVariables false
namespace Go.Proofs.YtflilincnacbpaaGreat
namespace K
open Go Go.Conc Go.Conc.Lib
section
variable {P:Program}{L:WgLink}(H:WgLib P L)
include H
theorem II:xG P L.disable .disable:=⟨⟨_,H.f_disable,by kernel_rfl,by kernel_rfl,by kernel_rfl,by kernel_rfl⟩,λg h=>by cases h⟩
theorem IH:xG P L.enable .enable:=⟨⟨_,H.f_enable,by kernel_rfl,by kernel_rfl,by kernel_rfl,by kernel_rfl⟩,λg h=>by cases h⟩
theorem Rh:rW P L.relMerge .releaseMerge:=⟨⟨_,H.f_relMerge,by kernel_rfl,by kernel_rfl,by kernel_rfl,by kernel_rfl⟩,λa g h=>by cases h⟩
theorem N7:rW P L.acquire .acquire:=⟨⟨_,H.f_acquire,by kernel_rfl,by kernel_rfl,by kernel_rfl,by kernel_rfl⟩,λa g h=>by cases h⟩
theorem T8:rW P L.raceRead .read:=⟨⟨_,H.f_raceRead,by kernel_rfl,by kernel_rfl,by kernel_rfl,by kernel_rfl⟩,λa g h=>by cases h⟩
theorem TZ:rW P L.raceWrite .write:=⟨⟨_,H.f_raceWrite,by kernel_rfl,by kernel_rfl,by kernel_rfl,by kernel_rfl⟩,λa g h=>by cases h⟩
theorem N6:JL P L.inBubble (.bool false):=⟨_,H.f_inBubble,by kernel_rfl,by kernel_rfl,by kernel_rfl,by kernel_rfl⟩
end
theorem c9{P:Program}{T f b off n k t:Nat}{fs:Array Field}(hU:P.underlying T=some (.struct fs))(hf:(fs[f]?).map (λd=>(d.offset,d.type))=some (k,t))(hs:∀w,(sizeOf t).run P w= .ok (n+1) w)(w:World):(Instr.fieldAt T (.pointer (some ⟨b,off,none⟩)) f).runT P w #[]=(.ok (.pointer (some ⟨b,off+k,none⟩)) w, #[]):=by
 obtain⟨fld,hf',e⟩:=Option.map_eq_some_iff.1 hf;clear hf;simp only [Prod.mk.injEq] at e;obtain⟨rfl,rfl⟩:=e;have hf:=hf'
 have h1:(Instr.fieldAt T (.pointer (some ⟨b,off,none⟩)) f).run P w= .ok (.pointer (some ⟨b,off+fld.offset,none⟩)) w:=by
  simp_all [Instr.fieldAt,run_underlying,Addr.add,Instr.sureAddr,fieldPlace]
 have h2:(Instr.fieldAt T (.pointer (some ⟨b,off,none⟩)) f).events P w #[]= #[]:=by
  simp_all [Instr.fieldAt,run_underlying,Instr.sureAddr,fieldPlace]
 simp_all
theorem wF{P:Program}{T T' t0 n b off m:Nat}{cs:Array Value}{Tb:TypeId}(hT:P.underlying T=some (.pointer t0))(hT':P.underlying T'=some .unsafePointer)(hs:∀w,(sizeOf t0).run P w= .ok (n+1) w)(hc:cs.size=m)(ho:off < m)(w:World)(hq:w.heap[b]? =some (.cells cs Tb)):(convert T T' (.pointer (some ⟨b,off,none⟩))).runT P w #[]=(.ok (.pointer (some ⟨b,off,none⟩)) w, #[]):=by
 have h0:¬cs.size≤off:=by omega
 have hv:(viewAt b).run P w= .ok none w:=by simp [viewAt,World.shape?,hq]
 have hv':(viewAt b).events P w #[]= #[]:=by simp [viewAt,World.shape?,hq]
 have h1:(convert T T' (.pointer (some ⟨b,off,none⟩))).run P w= .ok (.pointer (some ⟨b,off,none⟩)) w:=by
  simp [convert,run_underlying hT,run_underlying hT',Conv.unsafePointer,Conv.seenAt,hv,cellsIn,World.shape?,hq,hs,h0]
 have h2:(convert T T' (.pointer (some ⟨b,off,none⟩))).events P w #[]= #[]:=by
  simp [convert,run_underlying hT,run_underlying hT',Conv.unsafePointer,Conv.seenAt,hv,hv',cellsIn,World.shape?,hq,hs,h0]
 simp_all
theorem mN{P:Program}{p:Gp}{T T' t0 n:Nat}{off:Nat}(hcr:p.cr=true)(hT:P.underlying T=some (.pointer t0))(hT':P.underlying T'=some .unsafePointer)(hs:∀w,(sizeOf t0).run P w= .ok (n+1) w)(ho:off < 2)(w:World)(hl:p.Kf w):(convert T T' (.pointer (some ⟨p.bw,off,none⟩))).runT P w #[]=(.ok (.pointer (some ⟨p.bw,off,none⟩)) w, #[]):=by
 obtain⟨x,y,hq⟩:=hl.wg hcr;exact wF hT hT' hs (m:=2) rfl ho w hq
theorem so{P:Program}{p:Gp}{T T' t0 n:Nat}(hT:P.underlying T=some (.pointer t0))(hT':P.underlying T'=some .unsafePointer)(hs:∀w,(sizeOf t0).run P w= .ok (n+1) w)(w:World)(hl:p.Kf w):(convert T T' (.pointer (some p.muA))).runT P w #[]=(.ok (.pointer (some p.muA)) w, #[]):=by
 obtain⟨x,y,hq⟩:=hl.mu;exact wF hT hT' hs (m:=p.m0.size+3) (by simp) (by omega) w hq
theorem wI{c wt:Nat}(hc:c < 2147483648)(hw:wt≤1):iu .u64 ((c * 4294967296+wt:Nat):Int) 32=(c:Int):=by
 unfold iu;have e:(2:Int) ^ (min (32:Int).toNat IntKind.u64.bits)=4294967296:=by decide
 grind
theorem wJ{c wt:Nat}(hc:c < 2147483648)(hw:wt≤1):qD .u64 ((c * 4294967296+wt:Nat):Int) 2147483648=0:=by
 have:=Go.ConcN.st_flag c wt hc hw;have e:((c * 4294967296+wt:Nat):Int)=(c:Int) * 4294967296+(wt:Int):=by omega
 rw [e];exact this
theorem wH{c wt:Nat}(hc:c < 2147483648)(hw:wt≤1):qD .u64 ((c * 4294967296+wt:Nat):Int) 2147483647=(wt:Int):=by
 have:=Go.ConcN.st_waiters c wt hc hw;have e:((c * 4294967296+wt:Nat):Int)=(c:Int) * 4294967296+(wt:Int):=by omega
 rw [e];exact this
theorem zr{c:Nat}(hc:c < 2147483648):IntKind.i32.wrap (c:Int)=(c:Int):=by grind [wrap_i32_small]
end K
end Go.Proofs.YtflilincnacbpaaGreat
set_option linter.unusedVariables false
namespace Go.Proofs.YtflilincnacbpaaGreat
namespace K
open Go Go.Conc
@[reducible] def VW.ub(v:VW)(p:Gp):VW:=⟨v.toWorld,λb=>v.A b\/b=p.bk,v.Z⟩
def VR(p:Gp)(v0 v:VW):Prop:=bu (v0.ub p) (v.ub p)/\(∀b,p.sh b->v.A b)/\p.bk < v.heap.size
theorem bu.ub{p:Gp}{v v1:VW}(h:bu v v1)(hk:p.bk < v.heap.size):bu (v.ub p) (v1.ub p) where
 keep b hb ha:=h.keep b hb λx=>ha (.inl x)
 size:=h.size
 sub b hb:=hb.imp (h.sub b) id
 old b hb:=by
  rcases hb with hb |hb
  .exact(h.old b hb).imp .inl id
  omega
 dom hd b hb:=by
  rcases hb with hb |hb
  .exact h.dom (λb hb=>hd b (.inl hb)) b hb
  .subst hb;exact Nat.lt_of_lt_of_le hk h.size
 Z:=h.Z
 os:=h.os
 tape:=h.tape
 output:=h.output
theorem VR.refl{p:Gp}{v:VW}(h:∀b,p.sh b->v.A b)(hk:p.bk < v.heap.size):VR p v v:=⟨bu.refl _,h,hk⟩
theorem VR.trans{p:Gp}{v v1 v2:VW}(h:VR p v v1)(h':VR p v1 v2):VR p v v2:=⟨h.1.trans h'.1,h'.2⟩
theorem VR.rely{p:Gp}{v0 v v1:VW}(h:VR p v0 v)(hr:bu v v1):VR p v0 v1:=⟨h.1.trans (hr.ub h.2.2),λb hb=>hr.sub b (h.2.1 b hb),Nat.lt_of_lt_of_le h.2.2 hr.size⟩
theorem VR.put{p:Gp}{v0 v:VW}{w':World}{q':dV}{dt:Nat}(hok:p.Ok)(h:VR p v0 v)(he:p.Eff v.toWorld w' q'):VR p v0 (v.put p dt w'):=by
 refine⟨h.1.trans ⟨λb hb ha=>he.keep b λx=>ha (.inl (h.2.1 b x)),Nat.le_of_eq he.size.symm,λb hb=>?_,λb hb=>?_,λhd b hb=>?_,rfl,.of he.os,he.tape,he.output⟩,λb hb=>?_,by rw [show(v.put p dt w').heap.size=w'.heap.size from rfl,he.size];exact h.2.2⟩
 .grind
 .grind
 .show b < w'.heap.size;rw [he.size];by_cases e:b=p.bk
  .simp_all
  grind
 .show(if b=p.bk then dt=0 else v.A b);rw [if_neg]
  .exact h.2.1 b hb
  .rintro rfl;rcases hb with e |⟨hc,e |e⟩
   .exact hok.mb e.symm
   .exact(hok.wm hc).2.1 e.symm
   .exact(hok.cm hc).2 e.symm
structure sf where
 df:Nat:=0
 hd:Nat:=0
 dt:Nat:=0
 aw:Nat:=0
 rn:Nat:=0
 qu:Nat:=0
 tk:Nat:=0
 rh:Nat:=0
 ty:Nat:=0
 phi:Nat:=0
 se:Option (Nat×Nat):=none
 nb:Nat:=0
@[reducible] def sf.mx(l:sf):Nat:=l.hd+l.aw+l.rn+l.qu+l.tk+l.rh+l.ty
@[reducible] def Ph.set(s:Ph)(l:sf):Ph:={ s with df:=l.df,hd:=l.hd,dt:=l.dt,aw:=l.aw,rn:=l.rn,qu:=l.qu,tk:=l.tk,rh:=l.rh,ty:=l.ty,phi:=l.phi,se:=l.se,nb:=l.nb }
structure Ph.Run(s:Ph):Prop where
 q:s.q=false
 nr:s.nr=true
 rg:s.rg=false
 jn:s.jn=true->s.al=true
structure Mb where
 hd:Nat
 dt:Nat
 aw:Nat
 rn:Nat
 qu:Nat
 tk:Nat
 rh:Nat
 ty:Nat
 phi:Nat
structure UX(q:dV)(hd dt aw rn qu tk rh ty phi:Nat):Prop where
 le:q.L≤1/\q.W≤1/\q.S≤1
 hd:q.L=hd
 s0:q.S=0->q.W=aw+rn+q.T+tk/\qu=q.N+q.T+rn/\rh=0/\(q.L=0->0 < q.N->q.W=0->0 < ty)
 s1:q.S=1->q.W=0/\aw=0/\rn=0/\q.L+rh+q.T+tk=1/\qu+tk=q.N/\1≤q.N
 h:q.h=dt
 f:phi+2 * q.T≤q.f
@[reducible] def UY(q:dV)(o:Mb)(l:sf):Prop:=UX q (o.hd+l.hd) (o.dt+l.dt) (o.aw+l.aw) (o.rn+l.rn) (o.qu+l.qu) (o.tk+l.tk) (o.rh+l.rh) (o.ty+l.ty) (o.phi+l.phi)
def vG(n:Nat)(sg:Nat->Ph)(i:Nat):Mb:=⟨al n (upd sg i .quit) Ph.hd,al n (upd sg i .quit) Ph.dt,al n (upd sg i .quit) Ph.aw,al n (upd sg i .quit) Ph.rn,al n (upd sg i .quit) Ph.qu,al n (upd sg i .quit) Ph.tk,al n (upd sg i .quit) Ph.rh,al n (upd sg i .quit) Ph.ty,al n (upd sg i .quit) Ph.phi⟩
theorem my.mu{p:Gp}{mn:Bool}{s:Ph}{l:sf}{q:dV}(h:my p mn (s.set l) q):∃o:Mb,o.dt≤o.hd/\UY q o l/\(∀ow φ,l.se=some (ow,φ)->q.f≤φ/\(q.f=φ->q.word=ow))/\l.nb≤q.N/\(l.nb=0\/(q.S=1/\l.tk=1))/\q.N≤101/\q.T≤1:=by
 obtain⟨n,sg,i,hi,hm,e,hb⟩:=h
 have hz:∀f:Ph->Nat,f Ph.quit=0->al n (upd sg i .quit) f+f (s.set l)=al n sg f:=λf hf=>by
  grind [fp]
 have h1:=hz Ph.aw rfl;have h2:=hz Ph.rn rfl;have h3:=hz Ph.tk rfl;have h4:=hz Ph.qu rfl;have h5:=hz Ph.rh rfl;have h6:=hz Ph.ty rfl;have h7:=hz Ph.phi rfl;refine⟨vG n sg i,?_,⟨hb.le,hb.hd.trans (hz Ph.hd rfl).symm,λx=>?_,λx=>?_,hb.h.trans (hz Ph.dt rfl).symm,?_⟩,λow φ hx=>hb.se i ow φ hi (by simp_all),?_,?_,hb.small⟩
 .exact jw λj hj=>by
   by_cases ej:j=i
   .simp_all [bC,Nat.le_refl]
   .rw [bz ej];exact(hb.ok j hj).dt
 .have:=hb.s0 x;rw [<-h1,<-h2,<-h3,<-h4,<-h5,<-h6] at this;exact this
 .have:=hb.s1 x;rw [<-h1,<-h2,<-h3,<-h4,<-h5] at this;exact this
 .have:=hb.f;rw [<-h7] at this;exact this
 .have:=(hb.nb i hi).1;simp_all
 .have:=(hb.nb i hi).2;simp_all
theorem Sv.lk{p:Gp}{mn:Bool}{s:Ph}{l l':sf}{q q':dV}(hs:s.Run)
 (hsame:q'.c=q.c/\q'.wt=q.wt/\q'.sm=q.sm/\q'.cl=q.cl)
 (hA:∀o:Mb,o.dt≤o.hd->UY q o l->(∀ow φ,l.se=some (ow,φ)->q.f≤φ/\(q.f=φ->q.word=ow))->l.nb≤q.N->(l.nb=0\/(q.S=1/\l.tk=1))->UY q' o l')
 (hf:q'.f < q.f\/(q'.f=q.f/\q'.word=q.word))
 (hse:∀ow φ,l'.se=some (ow,φ)->q'.f≤φ/\(q'.f=φ->q'.word=ow)\/(l.se=some (ow,φ)))
 (hnb:∀x:Ph,x.nb≤q.N->(x.nb=0\/(q.S=1/\x.tk=1))->(q.S=1->x.tk+l.tk+q.L≤1)->x.nb≤q'.N/\(x.nb=0\/(q'.S=1/\x.tk=1)))
 (hnb':l.nb≤q.N->l'.nb≤q'.N/\(l'.nb=0\/(q'.S=1/\l'.tk=1)))
 (hmx:l'.mx≤1) (hdt:l'.dt≤l'.hd):Sv p mn (s.set l) q (s.set l') q':=by
 obtain⟨e1,e2,e3,e4⟩:=hsame
 have hz':∀{a:Su} {z:Ph},(mn=true->z=s.set l)->∀{α:Type} (g:Ph->α),g (s.set l')=g (s.set l)->g (if mn=true then s.set l' else z)=g z:=λ{a z} hm {α} g hg=>by
  grind
 refine Sv.mk (λa b z ha hp hsb hm hw h1 h2 h3=>?_) hs.q hf hse hnb (λa z _ _=>hnb') (λi hi ho=>⟨?_,λe=>?_,ho.lv,λe=>?_,hdt,ho.main,ho.work⟩) λhmn hx=>.inl hx
 .
  have g:∀{α:Type} (g:Ph->α),g (s.set l')=g (s.set l)->g (if mn=true then s.set l' else z)=g z:=λ{α} g hg=>hz' (a:=a) hm g hg;have q1:=hsb.ac;have q2:=hsb.w1;have q3:=hsb.w2;have q4:=hsb.nw;have q5:=hsb.hd;have q6:=hsb.dt;have q7:=hsb.aw;have q8:=hsb.rn;have q9:=hsb.qu;have q10:=hsb.tk;have q11:=hsb.rh;have q12:=hsb.ty;have q13:=hsb.phi;have q14:=hsb.lv;simp only [Ph.set] at q1 q2 q3 q4 q5 q6 q7 q8 q9 q10 q11 q12 q13 q14;have p1:=hp.hd;have p2:=hp.dt;have p3:=hp.aw;have p4:=hp.rn;have p5:=hp.qu;have p6:=hp.tk;have p7:=hp.rh;have p8:=hp.ty;have p9:=hp.phi;simp only [Ph.set] at p1 p2 p3 p4 p5 p6 p7 p8 p9;have pd:=hp.dth;simp only [Ph.set] at pd;have hmu:=hA ⟨a.hd - l.hd,a.dt - l.dt,a.aw - l.aw,a.rn - l.rn,a.qu - l.qu,a.tk - l.tk,a.rh - l.rh,a.ty - l.ty,a.phi - l.phi⟩ (by grind) ?_ h1 h2 h3
  .obtain⟨k1,k2,k3,k4,k5,k6⟩:=hmu;simp only at k2 k3 k4 k5 k6;rw [show a.hd - l.hd+l'.hd=b.hd by omega] at k2;rw [show a.aw - l.aw+l'.aw=b.aw by omega,show a.rn - l.rn+l'.rn=b.rn by omega,show a.tk - l.tk+l'.tk=b.tk by omega,show a.qu - l.qu+l'.qu=b.qu by omega,show a.rh - l.rh+l'.rh=b.rh by omega] at k3 k4;rw [show a.ty - l.ty+l'.ty=b.ty by omega] at k3;rw [show a.dt - l.dt+l'.dt=b.dt by omega] at k5;rw [show a.phi - l.phi+l'.phi=b.phi by omega] at k6;have r1:b.ac=a.ac:=by omega
   have r2:b.w1=a.w1:=by omega
   have r3:b.w2=a.w2:=by omega
   have r4:b.nw=a.nw:=by omega
   have r5:b.lv=a.lv:=by omega
   refine⟨?_,?_,?_,?_,?_,?_,?_,k1,k2,k3,k4,k5,k6,?_,?_⟩
   .rw [e1,r1,g Ph.pd rfl];exact ha.c
   .rw [g Ph.rg rfl,e2,e3,r2,r3];exact ha.un
   .rw [g Ph.rg rfl,g Ph.pd rfl,e1,e2,e3,r2,r3];exact ha.re
   .rw [g Ph.pd rfl];exact ha.pd
   .rw [g Ph.rg rfl,g Ph.cd rfl,e4];exact ha.rgc
   .rw [g Ph.op rfl,e4];exact ha.op
   .rw [g Ph.sp rfl,e4,r4];exact ha.nw
   .rw [g Ph.sp rfl,r5];exact ha.lv
   .rw [g Ph.cb rfl,e1];exact ha.cb
  .refine⟨ha.le,?_,?_,?_,?_,?_⟩
   .rw [ha.hd];grind
   .simp only;rw [show a.aw - l.aw+l.aw=a.aw by omega,show a.rn - l.rn+l.rn=a.rn by omega,show a.tk - l.tk+l.tk=a.tk by omega,show a.qu - l.qu+l.qu=a.qu by omega,show a.rh - l.rh+l.rh=a.rh by omega,show a.ty - l.ty+l.ty=a.ty by omega];exact ha.s0
   .simp only;rw [show a.aw - l.aw+l.aw=a.aw by omega,show a.rn - l.rn+l.rn=a.rn by omega,show a.tk - l.tk+l.tk=a.tk by omega,show a.qu - l.qu+l.qu=a.qu by omega,show a.rh - l.rh+l.rh=a.rh by omega];exact ha.s1
   .rw [ha.h];grind
   .have:=ha.f;grind
 .
  have:=ho.lv hs.q;simp_all
 .
  have hrg:=hs.rg;simp_all
 .
  have hq:=hs.q;simp_all
theorem mL.lk{p:Gp}{mn:Bool}{s:Ph}{l l':sf}{es:Array Event}(hs:s.Run)
 (sh:∀e∈es,(∃l wr,e=⟨l,wr,true⟩/\p.wc l)\/e=iR .disable\/e=iR .enable\/(∃a,e=iR (.acquire a))\/(∃a,e=iR (.releaseMerge a))\/(mn=true/\∃a,(e=iR (.read a)\/e=iR (.write a))/\p.wc (.cell a)))
 (hdf:deafBehind l.df es=l'.df) (hdeaf:∀j,j < es.size->∀e,es[j]? =some e->(MemAct.ofEvent e).touch? ≠none->0 < deafBehind l.df (es.extract 0 j))
 (hdt:l'.dt≤1) (ha:l'.dt≠l.dt->l'.dt=1->es= #[iR (.acquire p.muA)]/\l.df=0) (hr:l'.dt≠l.dt->l'.dt=0->es= #[iR (.releaseMerge p.muA)]/\l.df=0):mL p mn (s.set l) (s.set l') es where
 sh:=sh
 df:=by rw [if_neg (by rw [show(s.set l').q=s.q from rfl,hs.q];simp)];exact hdf
 deaf _:=hdeaf
 acq:=ha
 rel:=hr
 dt:=hdt
 nr _ e:=by simp_all
 nr' h:=h
 jn h:=⟨hs.jn h,.inl h⟩
 bw _ e:=by have e:s.nr=false:=e;rw [hs.nr] at e;cases e
def WV(v0:VW)(P:Program)(p:Gp)(T:Tq)(mn:Bool)(s:Ph):Tq:=λv fr cs=>VR p v0 v->(v.A p.bk↔s.dt=0)->Ww P p T mn s v fr cs
theorem Et{p:Gp}{v v1:VW}{X:Prop}(hr:bu v v1)(hk:p.bk < v.heap.size)(h:v.A p.bk↔X):v1.A p.bk↔X:=⟨λx=>h.1 ((hr.old _ x).elim id λy=>by omega),λx=>hr.sub _ (h.2 x)⟩
theorem HM{p:Gp}{v:VW}{dt:Nat}(h:v.A p.bk↔dt=0):v.put p dt v.toWorld=v:=by
 have:p.sA dt v.A=v.A:=by
  grind
 show(⟨v.toWorld,p.sA dt v.A,v.Z⟩:VW)=v;rw [this]
theorem sF{p:Gp}{v:VW}{dt:Nat}{w:World}:(v.put p dt w).A p.bk↔dt=0:=by
 simp_all
section
variable {P:Program}{p:Gp}{T:Tq}{mn:Bool}{s s':Ph}{v0 v:VW}{b:Frame}{cs:List Frame}{N d i:Nat}{df:List Deferred}{Γ:Gv}{ops:Array Oper}{rest:List Nat}{k:List Item}
theorem bq(hq:s.q=false):Mv P p.Kf mn (WV v0 P p T mn s):=λv fr fr' cs cs' h1 h hv ha=>Ww.move hq (λw hl=>h1 w hl) (h hv ha)
theorem pG{fr:Frame}(hq:s.q=false)(h:∀v1 q,bu v v1->p.At v1 q->my p mn s q->GI P p (λ_ _ _ _=>Ww P p T) mn s fr cs v1 q):Ww P p T mn s v fr cs:=
 .of ⟨hq,.inr (.inl h)⟩
theorem pW(hok:p.Ok)(hq:s.q=false){u:dV->Value}{W:World->dV->World}{Q:dV->dV}{S:dV->Ph}{es:dV->Array Event}(hS:∀q,(S q).q=false)
 (step:∀a,QS N df Γ a->∀w q,p.At w q->my p mn s q->stepG P mn (G (b.at a (.inRegion ops (i::rest)::k)) cs) w= .go (G (b.at (a.put (some d) (u q)) (.inRegion ops rest::k)) cs) (W w q) (es q))
 (eff:∀w q,p.At w q->my p mn s q->p.Eff w (W w q) (Q q)) (sv:∀q,my p mn s q->Sv p mn s q (S q) (Q q)) (ev:∀q,my p mn s q->mL p mn s (S q) (es q))
 (wk:∀a q,QS N df Γ a->my p mn s q->(q.T < (Q q).T\/q.sm < (Q q).sm\/q.cl≠(Q q).cl)->mayWake P (G (b.at a (.inRegion ops (i::rest)::k)) cs)=true) (hcl:∀q,my p mn s q->q.cl=true->(Q q).cl=true)
 (h:∀v' q,my p mn s q->Qt (WV v0 P p T mn (S q)) v' b cs N df (.inRegion ops rest::k) ((d,u q)::Γ)) (hN:blt d N=true:=by exact rfl):
 Qt (WV v0 P p T mn s) v b cs N df (.inRegion ops (i::rest)::k) Γ:=λa ha hv _=>
 pG hq λv1 q hr hat hp=>⟨S q,Q q,_,_,W v1.toWorld q,es q,step a ha _ q hat hp,eff _ q hat hp,sv q hp,ev q hp,wk a q ha hp,hcl q hp,λ_=>⟨q,undef,true,h _ q hp _ (ha.put hN) ((hv.rely hr).put hok (eff _ q hat hp)) sF⟩,λe=>by simp_all⟩
theorem tV{es:Array Event}(hok:p.Ok)(hq:s.q=false)(hq':s'.q=false)(hdt:s'.dt=s.dt)(sv:∀q,my p mn s q->Sv p mn s q s' q)(ev:mL p mn s s' es):Wd P p.Kf mn es (WV v0 P p T mn s) (WV v0 P p T mn s'):=λv fr fr' cs cs' h1 h hv ha=>
 pG hq λv1 q hr hat hp=>⟨s',q,fr',cs',v1.toWorld,es,h1 _ hat.kf,.refl hat,sv q hp,ev,λe=>by simp_all,id,λ_=>⟨q,undef,true,by
  rw [HM (by rw [hdt];exact Et hr hv.2.2 ha)]
  exact(h hv (by simp_all)).rely hr⟩,λe=>by simp_all⟩
end
end K
end Go.Proofs.YtflilincnacbpaaGreat
set_option linter.unusedVariables false
namespace Go.Proofs.YtflilincnacbpaaGreat
namespace K
open Go Go.Conc
section
variable {p:Gp}{w:World}{q:dV}
theorem Gp.At.m0(h:p.At w q):w.cell? p.muA=some (.int .i32 (q.word:Int)):=by simp [World.cell?,Gp.muA,h.mu]
theorem Gp.At.m1(h:p.At w q):w.cell? p.msA=some (.int .u32 (q.T:Int)):=by simp [World.cell?,Gp.msA,h.mu,Array.getElem?_append]
theorem Gp.At.g0(h:p.At w q):w.frozen? p.muA=false:=by simp [World.frozen?,Gp.muA,h.mu]
theorem Gp.At.g1(h:p.At w q):w.frozen? p.msA=false:=by simp [World.frozen?,Gp.msA,h.mu]
theorem Gp.At.c0(h:p.At w q)(hc:p.cr=true):w.cell? p.stA=some (.int .u64 ((q.c * 4294967296+q.wt:Nat):Int)):=by simp [World.cell?,Gp.stA,h.wg hc]
theorem Gp.At.c1(h:p.At w q)(hc:p.cr=true):w.cell? p.smA=some (.int .u32 (q.sm:Int)):=by simp [World.cell?,Gp.smA,h.wg hc]
theorem Gp.At.f0(h:p.At w q)(hc:p.cr=true):w.frozen? p.stA=false:=by simp [World.frozen?,Gp.stA,h.wg hc]
theorem Gp.At.f1(h:p.At w q)(hc:p.cr=true):w.frozen? p.smA=false:=by simp [World.frozen?,Gp.smA,h.wg hc]
theorem K1{b k:Nat}{cs:Array Value}{T:TypeId}{x:Value}(h:w.heap[b]? =some (.cells cs T)):w.setCell ⟨b,k,none⟩ x={ w with heap:=w.heap.setIfInBounds b (.cells (cs.setIfInBounds k x) T) }:=by
 simp only [World.setCell];congr 1;grind
theorem K2{m:Array Value}{x y z u:Value}:(m++ #[x,y,z]).setIfInBounds m.size u=m++ #[u,y,z]:=by
 grind
theorem HA{m:Array Value}{x y z u:Value}:(m++ #[x,y,z]).setIfInBounds (m.size+1) u=m++ #[x,u,z]:=by
 simp_all
theorem Gp.Eff.blk{q':dV}{x y:Value}(hok:p.Ok)(h:p.At w q)(hx:x= .int .i32 (q'.word:Int))(hy:y= .int .u32 (q'.T:Int))(hs:q'.c=q.c/\q'.wt=q.wt/\q'.sm=q.sm/\q'.cl=q.cl/\q'.cs=q.cs/\q'.h=q.h):p.Eff w { w with heap:=w.heap.setIfInBounds p.bm (.cells (p.m0++ #[x,y,.map (some p.bk)]) p.tM) } q':=by
 subst hx hy;obtain⟨e1,e2,e3,e4,e5,e6⟩:=hs;have hlt:=(Array.getElem?_eq_some_iff.1 h.mu).1;have g:∀b,b≠p.bm->(w.heap.setIfInBounds p.bm (.cells (p.m0++ #[.int .i32 (q'.word:Int),.int .u32 (q'.T:Int),.map (some p.bk)]) p.tM))[b]? =w.heap[b]? :=λb hb=>getElem?_setIfInBounds_ne λe=>hb e.symm;refine⟨⟨λhc=>?_,λhc=>?_,?_,λe=>?_⟩,λb hb=>g b λe=>hb (.inl e),by simp,rfl,rfl,rfl⟩
 .exact(g _ (hok.wm hc).1).trans (by rw [e1,e2,e3];exact h.wg hc)
 .exact(g _ (hok.cm hc).1).trans (by rw [e4,e5];exact h.ch hc)
 .simp_all
 .obtain⟨o,ho,hr⟩:=h.mp (e6▸e);exact⟨o,(g _ hok.mb.symm).trans ho,hr⟩
theorem Gp.Eff.word{q':dV}(hok:p.Ok)(h:p.At w q)(hs:q'.c=q.c/\q'.wt=q.wt/\q'.sm=q.sm/\q'.cl=q.cl/\q'.cs=q.cs/\q'.h=q.h)(hT:q'.T=q.T):p.Eff w (w.setCell p.muA (.int .i32 (q'.word:Int))) q':=by
 rw [show p.muA=⟨p.bm,p.m0.size,none⟩ from rfl,K1 h.mu,K2];grind [Gp.Eff.blk]
theorem Gp.Eff.sema{q':dV}(hok:p.Ok)(h:p.At w q)(hs:q'.c=q.c/\q'.wt=q.wt/\q'.sm=q.sm/\q'.cl=q.cl/\q'.cs=q.cs/\q'.h=q.h)(hw:q'.word=q.word):p.Eff w (w.setCell p.msA (.int .u32 (q'.T:Int))) q':=by
 rw [show p.msA=⟨p.bm,p.m0.size+1,none⟩ from rfl,K1 h.mu,HA];grind [Gp.Eff.blk]
end
theorem kh:∀n:Nat,n < 840->qD .i32 (n:Int) 5=((n % 2+4 * (n / 4 % 2):Nat):Int)/\qD .i32 (n:Int) 1=((n % 2:Nat):Int)/\qD .i32 (n:Int) 2=((2 * (n / 2 % 2):Nat):Int)/\qD .i32 (n:Int) 4=((4 * (n / 4 % 2):Nat):Int)/\qD .i32 (n:Int) 3=((n % 4:Nat):Int)/\qD .i32 (n:Int) 7=((n % 8:Nat):Int)
 /\D8 .i32 (n:Int) 1=((n+1 - n % 2:Nat):Int)/\D8 .i32 (n:Int) 2=((n+2 - 2 * (n / 2 % 2):Nat):Int)/\D8 .i32 (n:Int) 4=((n+4 - 4 * (n / 4 % 2):Nat):Int)/\IS .i32 (n:Int) 2=((n - 2 * (n / 2 % 2):Nat):Int)/\iu .i32 (n:Int) 3=((n / 8:Nat):Int):=by decide+kernel
theorem IJ:∀{Γ:Gv} {s:Nat} {x:Value},lv Γ s=some x->(s,x)∈Γ
 |[],_,_,h=>by cases h
 |(s0,x0)::l,s,x,h=>by
  simp only [lv] at h
  split at h
  .
   simp_all
  .
   exact mem_cons_of_mem _ (IJ h)
theorem LH{Γ:Gv}{f g:Nat×Value->Option Value}:∀{l:Gv},l.map f=l.map g->∀e∈l,f e=g e
 |[],_,e,h=>by cases h
 |a::l,hm,e,h=>by
  simp only [map_cons,List.cons.injEq] at hm
  rcases mem_cons.1 h with rfl |h
  .
   exact hm.1
  simp_all
section
variable {P:Program}{p:Gp}{T:Tq}{mn:Bool}{s s':Ph}{v0 v:VW}{b:Frame}{cs:List Frame}{N d i f:Nat}{df:List Deferred}{Γ:Gv}{ops:Array Oper}{rest:List Nat}{k:List Item}{o:Oper}{xs:Array Operand}{ts:Array TypeId}
theorem Qt.base{Tq':Tq}{its:List Item}(Γ':Gv)(h:Qt Tq' v b cs N df its Γ')(hm:Γ'.map (λe=>lv Γ e.1)=Γ'.map (λe=>some e.2):=by exact rfl):Qt Tq' v b cs N df its Γ:=λa ha=>
 h a ⟨ha.size,ha.defers,λs x hl=>ha.val s x (LH (Γ:=Γ') hm _ (IJ hl))⟩
theorem EI(hq:s.q=false){Ok:Value->Prop}
 (step:∀a,QS N df Γ a->∀w:World,∃u w',Ok u/\stepG P mn (G (b.at a (.inRegion ops (i::rest)::k)) cs) w= .go (G (b.at (a.put (some d) u) (.inRegion ops rest::k)) cs) w' #[]/\w'.heap=w.heap/\j7 w'.os w.os/\w'.tape=w.tape/\w'.output=w.output)
 (h:∀v' u,Ok u->Qt (WV v0 P p T mn s) v' b cs N df (.inRegion ops rest::k) ((d,u)::Γ)) (hN:blt d N=true:=by exact rfl):Qt (WV v0 P p T mn s) v b cs N df (.inRegion ops (i::rest)::k) Γ:=λa ha hv hA=>
 Ww.own hq λv1 hr _=>by
  obtain⟨u,w',h0,h1,h2,h3,h4,h5⟩:=step a ha v1.toWorld
  have hr':bu v1 (v1.upd w'):=⟨λb _ _=>by simp_all,by simp_all,λ_ h=>h,λ_ h=>.inl h,λh b hb=>by grind,rfl,h3,h4,h5⟩
  exact⟨_,_,w', #[],h1,(⟨λb _ _=>by rw [h2],by simp_all,h3,h4,h5,λe h=>by simp at h⟩:eP v1 w' #[]).k,λ_=>rfl,h _ u h0 _ (ha.put hN) (hv.rely (hr.trans hr')) (Et (hr.trans hr') hv.2.2 hA)⟩
def GV(v0:VW)(P:Program)(p:Gp)(T:Tq)(mn:Bool)(s:Ph):Tq:=λv fr cs=>VR p v0 v->¬v.A p.bk->(∃o,v.heap[p.bk]? =some o/\p.R o)->Ww P p T mn s v fr cs
theorem sb(hq:s.q=false):Mv P p.Kf mn (GV v0 P p T mn s):=λv fr fr' cs cs' h1 h hv ha hR=>Ww.move hq (λw hl=>h1 w hl) (h hv ha hR)
theorem NR:p.wc (.cell p.muA):=.inl rfl
theorem NS:p.wc (.cell p.msA):=.inr (.inl rfl)
theorem EK(hok:p.Ok)(hs:s.Run){c:Nat}{x:Operand}(hM:rW P f .acquire)(ho:ops[i]? =some o)(hop:o.op= .call { callee:=.value (.func f),args:= #[x],argTypes:=ts })(hx:ev Γ x=some (.pointer (some p.muA)))
 (h:∀v',Qt (GV v0 P p T mn (s.set { hd:=1,dt:=1,phi:=c })) v' b cs N df (.inRegion ops rest::k) ((d,.tuple #[])::Γ))
 (hg:o.guard=none:=by exact rfl) (hd:o.dst=some d:=by exact rfl) (hN:blt d N=true:=by exact rfl) (hk:b.kind≠.early:=by exact λh=>nomatch h):Qt (WV v0 P p T mn (s.set { hd:=1,phi:=c })) v b cs N df (.inRegion ops (i::rest)::k) Γ:=λa ha hv _=>by
 obtain⟨⟨fn,h1,h2,h3,h4,h5⟩,h6⟩:=hM
 refine pG hs.q λv1 q hr hat hp=>?_
 have hq0:q.h=0:=by
  obtain⟨o,h1,h2,_⟩:=hp.mu;have a1:=h2.le;have a2:=h2.hd;have a3:=h2.h;simp_all
 have hat':p.At v1.toWorld { q with h:=1 }:=⟨hat.wg,hat.ch,hat.mu,λe=>by cases e⟩
 have he:p.Eff v1.toWorld v1.toWorld { q with h:=1 }:=.refl hat'
 refine⟨s.set { hd:=1,dt:=1,phi:=c },{ q with h:=1 },_,_,v1.toWorld, #[iR (.acquire p.muA)],stepG_markAt _ h6 ho (ag hg _) hk hop h1 h2 h3 h4 h5 (by simp [ha.ev hx]),he,?_,?_,λe=>?_,id,λ_=>⟨q,undef,true,?_⟩,λe=>?_⟩
 .
  refine Sv.lk hs ⟨rfl,rfl,rfl,rfl⟩ (λo h1 h2 _ _ _=>?_) (.inr ⟨rfl,rfl⟩) (λow φ e=>by cases e) (λx h1 h2 _=>⟨h1,h2⟩) (λ_=>⟨zero_le _,.inl rfl⟩) (le_of_ble_eq_true rfl) (le_of_ble_eq_true rfl);obtain⟨k1,k2,k3,k4,k5,k6⟩:=h2;exact⟨k1,k2,k3,k4,by simp_all,k6⟩
 .
  refine mL.lk hs (λe h=>?_) rfl (λj hj e he ht=>?_) (Nat.le_refl _) (λ_ _=>⟨rfl,rfl⟩) (λ_ e=>by cases e)
  .grind
  .have:j=0:=by simp_all
   subst this;simp at he;subst he;exact absurd rfl ht
 .
  simp_all
 .
  rw [hd];refine h _ _ (ha.put hN) ((hv.rely hr).put hok he) ?_ ?_
  .grind
  .exact hat.mp hq0
 .
  have e:s.q=true:=e;rw [hs.q] at e;cases e
theorem NC(hok:p.Ok)(hs:s.Run){c:Nat}{x:Operand}(hM:rW P f .releaseMerge)(ho:ops[i]? =some o)(hop:o.op= .call { callee:=.value (.func f),args:= #[x],argTypes:=ts })(hx:ev Γ x=some (.pointer (some p.muA)))
 (h:∀v',Qt (WV v0 P p T mn (s.set { hd:=1,phi:=c })) v' b cs N df (.inRegion ops rest::k) ((d,.tuple #[])::Γ))
 (hg:o.guard=none:=by exact rfl) (hd:o.dst=some d:=by exact rfl) (hN:blt d N=true:=by exact rfl) (hk:b.kind≠.early:=by exact λh=>nomatch h):Qt (GV v0 P p T mn (s.set { hd:=1,dt:=1,phi:=c })) v b cs N df (.inRegion ops (i::rest)::k) Γ:=λa ha hv hA hR=>by
 obtain⟨⟨fn,h1,h2,h3,h4,h5⟩,h6⟩:=hM
 refine pG hs.q λv1 q hr hat hp=>?_
 have hR1:∃o,v1.heap[p.bk]? =some o/\p.R o:=by
  obtain⟨o,ho,hro⟩:=hR;exact⟨o,(hr.keep _ hv.2.2 hA).trans ho,hro⟩
 have hat':p.At v1.toWorld { q with h:=0 }:=⟨hat.wg,hat.ch,hat.mu,λ_=>hR1⟩
 have he:p.Eff v1.toWorld v1.toWorld { q with h:=0 }:=.refl hat'
 refine⟨s.set { hd:=1,phi:=c },{ q with h:=0 },_,_,v1.toWorld, #[iR (.releaseMerge p.muA)],stepG_markAt _ h6 ho (ag hg _) hk hop h1 h2 h3 h4 h5 (by simp [ha.ev hx]),he,?_,?_,λe=>?_,id,λ_=>⟨q,undef,true,?_⟩,λe=>?_⟩
 .
  refine Sv.lk hs ⟨rfl,rfl,rfl,rfl⟩ (λo h1 h2 _ _ _=>?_) (.inr ⟨rfl,rfl⟩) (λow φ e=>by cases e) (λx h1 h2 _=>⟨h1,h2⟩) (λ_=>⟨zero_le _,.inl rfl⟩) (le_of_ble_eq_true rfl) (le_of_ble_eq_true rfl);obtain⟨k1,k2,k3,k4,k5,k6⟩:=h2;have k2:q.L=o.hd+1:=k2;exact⟨k1,k2,k3,k4,by simp_all,k6⟩
 .
  refine mL.lk hs (λe h=>?_) rfl (λj hj e he ht=>?_) (zero_le _) (λ_ e=>by cases e) (λ_ _=>⟨rfl,rfl⟩)
  .grind
  .have:j=0:=by simp_all
   subst this;simp at he;subst he;exact absurd rfl ht
 .
  simp_all
 .
  rw [hd];exact h _ _ (ha.put hN) ((hv.rely hr).put hok he) sF
 .
  have e:s.q=true:=e;rw [hs.q] at e;cases e
theorem vu(hok:p.Ok)(hs:s.Run){l l':sf}{m:Mark}(hm:m= .disable\/m= .enable)(hl:l'={ l with df:=l'.df })(hdf:deafBehind l.df #[iR m]=l'.df)(hmx:l.mx≤1:=by exact le_of_ble_eq_true rfl)(hdt:l.dt≤l.hd:=by exact le_of_ble_eq_true rfl)(hnb:l.nb=0:=by rfl):Wd P p.Kf mn #[iR m] (WV v0 P p T mn (s.set l)) (WV v0 P p T mn (s.set l')):=by
 have hd1:l.dt≤1:=by grind
 refine tV hok hs.q hs.q (by rw [hl]) (λq _=>?_) ?_
 .rw [hl];exact Sv.lk hs ⟨rfl,rfl,rfl,rfl⟩ (λo _ h2 _ _ _=>h2) (.inr ⟨rfl,rfl⟩) (λow φ e=>.inr e) (λx h1 h2 _=>⟨h1,h2⟩) (λh=>⟨h,.inl hnb⟩) hmx hdt
 .rw [hl];refine mL.lk hs (λe h=>?_) hdf (λj hj e he ht=>?_) hd1 (λe=>absurd rfl e) (λe=>absurd rfl e)
  .grind
  .have:j=0:=by grind
   subst this;simp at he;subst he;rcases hm with rfl |rfl <;> exact absurd rfl ht
end
theorem Hf{P:Program}{Wl:World->Prop}{Γ:Gv}{o:Oper}{p q:Operand}{TT T':TypeId}{k k':IntKind}{n m z:Int}(ho:o.op= .binOp .shl TT p q T')(e1:ev Γ p=some (.int k n))(e2:ev Γ q=some (.int k' m))(h:0≤m)(hz:oO k n m=z):OV P Wl o Γ (.int k z):=by grind [QU]
theorem kY{P:Program}{Wl:World->Prop}{Γ:Gv}{o:Oper}{p q:Operand}{TT T':TypeId}{k k':IntKind}{n m z:Int}(ho:o.op= .binOp .shr TT p q T')(e1:ev Γ p=some (.int k n))(e2:ev Γ q=some (.int k' m))(h:0≤m)(hz:iu k n m=z):OV P Wl o Γ (.int k z):=by grind [QT]
theorem fS{P:Program}{Wl:World->Prop}{Γ:Gv}{o:Oper}{p:Operand}{TT T':TypeId}{k k':IntKind}{n z:Int}(ho:o.op= .convert TT T' p)(hT:P.underlying TT=some (.int k))(hT':P.underlying T'=some (.int k'))(e:ev Γ p=some (.int k n))(hz:k'.wrap n=z):OV P Wl o Γ (.int k' z):=by grind [OI]
end K
end Go.Proofs.YtflilincnacbpaaGreat
set_option linter.unusedVariables false
namespace Go.Proofs.YtflilincnacbpaaGreat
namespace K
open Go Go.Conc
section
variable {P:Program}{p:Gp}{T:Tq}{mn:Bool}{s:Ph}{l:sf}{v0 v:VW}{b:Frame}{cs:List Frame}{N d i f:Nat}{df:List Deferred}{Γ:Gv}{ops:Array Oper}{rest:List Nat}{k:List Item}{o oj:Oper}{xs:Array Operand}{ts:Array TypeId}{fn:Func}
theorem G6{a:Act}{j t:Nat}{g:Bool}(ha:QS N df Γ a)(hg:o.guard=some (j,g))(hj:ops[j]? =some oj)(hs:oj.dst=some t)(hl:lv Γ t=some (.bool g)):Region.wanted o (yielded ops a.tmps)=true:=by
 unfold Region.wanted yielded;rw [hg];simp [hj,hs,CJ (ha.val t _ hl) (by simp [undef])]
theorem mL.mu{l':sf}{es:Array Event}(hs:s.Run)(h1:l.df=1)(h1':l'.df=1)(hdt:l'.dt=l.dt)(hd1:l.dt≤1)(he:es= #[]\/es= #[CS p.muA]\/es= #[CS p.muA,MB p.muA]\/es=semEvents p.msA):mL p mn (s.set l) (s.set l') es:=by
 refine mL.lk hs (λe hm=>?_) ?_ (λj hj e hx _=>?_) (by omega) (λe=>absurd hdt e) (λe=>absurd hdt e)
 .rcases he with rfl |rfl |rfl |rfl
  .simp at hm
  .simp at hm;subst hm;exact .inl ⟨_,_,rfl,NR⟩
  .simp at hm;rcases hm with rfl |rfl <;> exact .inl ⟨_,_,rfl,NR⟩
  .simp [semEvents] at hm;rcases hm with rfl |rfl |rfl |rfl
   .exact .inr (.inl rfl)
   .simp_all [NS]
   .simp_all [NS]
   .exact .inr (.inr (.inl rfl))
 .rw [h1,h1'];rcases he with rfl |rfl |rfl |rfl <;> rfl
 .rw [h1];rcases he with rfl |rfl |rfl |rfl
  .simp at hj
  .have:j=0:=by simp_all
   subst this;exact Nat.one_pos
  .have:j=0\/j=1:=by grind
   rcases this with rfl |rfl <;> exact Nat.one_pos
  .have:j=0\/j=1\/j=2\/j=3:=by grind [semEvents]
   rcases this with rfl |rfl |rfl |rfl <;> exact le_of_ble_eq_true rfl
theorem Ed{main:Bool}{a:Act}{TT:TypeId}{x:Operand}{ad:Addr}{u:Value}{w:World}(ho:ops[i]? =some o)(hw:Region.wanted o (yielded ops a.tmps)=true)(hk:b.kind≠.early)(hop:o.op= .load TT x)(hq:(P.funcs[b.fn]?).any (·.norace)=true)
 (hag:∀w,(isAgg TT).run P w= .ok false w) (hx:a.eval x= .pointer (some ad)) (hc:w.cell? ad=some u):stepG P main (G (b.at a (.inRegion ops (i::rest)::k)) cs) w= .go (G (b.at (a.put o.dst u) (.inRegion ops rest::k)) cs) w #[]:=by
 have hr:(execOp a.eval o).run P w= .ok (.value u) w:=by
  simp_all [execOp,Instr.loadAt,Instr.sureAddr,loadVar]
 have he:(execOp a.eval o).events P w #[]= #[⟨.cell ad,false,false⟩]:=by
  have h0:(isAgg TT).events P w #[]= #[]:=events_isAgg ..;simp_all [execOp,Instr.loadAt,Instr.sureAddr,loadVar,events_load]
 rw [stepG_value ho hw hk hr]
 simp_all [listed,seen_def,seenStep]
theorem vt(hok:p.Ok)(hs:s.Run)(h1:l.df=1)(hd1:l.dt≤1){TT:TypeId}{x:Operand}(ho:ops[i]? =some o)(hop:o.op= .load TT x)(hq:(P.funcs[b.fn]?).any (·.norace)=true)(hag:∀w,(isAgg TT).run P w= .ok false w)(hx:ev Γ x=some (.pointer (some p.muA)))
 (L:dV->sf) (hL:∀q,(L q).df=1/\(L q).dt=l.dt) (hsv:∀q,my p mn (s.set l) q->Sv p mn (s.set l) q (s.set (L q)) q)
 (h:∀v' q,my p mn (s.set l) q->Qt (WV v0 P p T mn (s.set (L q))) v' b cs N df (.inRegion ops rest::k) ((d,.int .i32 (q.word:Int))::Γ))
 (hg:o.guard=none:=by exact rfl) (hd:o.dst=some d:=by exact rfl) (hN:blt d N=true:=by exact rfl) (hk:b.kind≠.early:=by exact λh=>nomatch h):Qt (WV v0 P p T mn (s.set l)) v b cs N df (.inRegion ops (i::rest)::k) Γ:=
 pW hok hs.q (u:=λq=>.int .i32 (q.word:Int)) (W:=λw _=>w) (Q:=λq=>q) (S:=λq=>s.set (L q)) (es:=λ_=> #[]) (λ_=>hs.q) (λa ha w q hat _=>by
  have:=Ed (P:=P) (main:=mn) (b:=b) (cs:=cs) (k:=k) (rest:=rest) ho (ag hg _) hk hop hq hag (ha.ev hx) hat.m0
  simp_all) (λw q hat _=>.refl hat) hsv (λq _=>mL.mu hs h1 (hL q).1 (hL q).2 hd1 (.inl rfl))
  (λa q _ _ e=>by simp_all) (λ_ _=>id) h hN
theorem ul(hok:p.Ok)(hs:s.Run)(h1:l.df=1)(hdt:l.dt=0)(hmx:l.mx≤1)(hnb:l.nb=0){ow nw:Nat}{x y z:Operand}(ho:ops[i]? =some o)(hop:o.op= .call { callee:=.value (.func f),args:= #[x,y,z],argTypes:=ts })
 (hw:∀a,QS N df Γ a->Region.wanted o (yielded ops a.tmps)=true)
 (hf:P.funcs[f]? =some fn) (hname:(fn.name == "runtime.NumGoroutine")=false) (hb:fn.body.isNone=true) (hn:Extern.findNext fn=none) (he:Extern.find fn=some (Extern.Atomic.casT (.int .i32)))
 (hx:ev Γ x=some (.pointer (some p.muA))) (hy:ev Γ y=some (.int .i32 (ow:Int))) (hz:ev Γ z=some (.int .i32 (nw:Int))) (lh:Nat->sf) (hlh:∀x,(lh x).df=1/\(lh x).dt=0) (qn:dV->dV)
 (hit:∀q,my p mn (s.set l) q->q.word=ow->(qn q).word=nw/\((qn q).c=q.c/\(qn q).wt=q.wt/\(qn q).sm=q.sm/\(qn q).cl=q.cl/\(qn q).cs=q.cs/\(qn q).h=q.h)/\(qn q).T=q.T/\(qn q).f < q.f/\Sv p mn (s.set l) q (s.set (lh (qn q).f)) (qn q))
 (k1:∀v' φ',(∀φ,l.se=some (ow,φ)->φ' < φ)->Qt (WV v0 P p T mn (s.set (lh φ'))) v' b cs N df (.inRegion ops rest::k) ((d,.bool true)::Γ))
 (k2:∀v' ow' φ',(∀φ,l.se=some (ow,φ)->φ' < φ)->Qt (WV v0 P p T mn (s.set { l with se:=some (ow',φ') })) v' b cs N df (.inRegion ops rest::k) ((d,.bool false)::Γ))
 (hd:o.dst=some d:=by exact rfl) (hN:blt d N=true:=by exact rfl) (hk:b.kind≠.early:=by exact λh=>nomatch h):Qt (WV v0 P p T mn (s.set l)) v b cs N df (.inRegion ops (i::rest)::k) Γ:=by
 refine pW hok hs.q (u:=λq=>.bool (decide (q.word=ow))) (W:=λw q=>if q.word=ow then w.setCell p.muA (.int .i32 (nw:Int)) else w) (Q:=λq=>if q.word=ow then qn q else q) (S:=λq=>if q.word=ow then s.set (lh (qn q).f) else s.set { l with se:=some (q.word,q.f) })
  (es:=λq=>if q.word=ow then #[CS p.muA,MB p.muA] else #[CS p.muA]) (λq=>?_) (λa ha w q hat hp=>?_) (λw q hat hp=>?_) (λq hp=>?_) (λq hp=>?_) (λa q _ hp e=>?_) (λq hp e=>?_) (λv' q hp=>?_) hN
 .
  by_cases e:q.word=ow
  .simp only [if_pos e];exact hs.q
  .simp only [if_neg e];exact hs.q
 .
  by_cases e:q.word=ow
  .simp only [if_pos e,decide_eq_true e];have:=stepG_cas_hit (P:=P) (main:=mn) (b:=b) (cs:=cs) (kk:=k) (rest:=rest) ho (hw a ha) hk hop hf hname hb hn .i32 he (ha.ev hx) (ha.ev hy) (ha.ev hz) (by rw [hat.m0,e]) hat.g0;rw [hd] at this;exact this
  .simp only [if_neg e,decide_eq_false e];have:=stepG_cas_miss (P:=P) (main:=mn) (b:=b) (cs:=cs) (kk:=k) (rest:=rest) ho (hw a ha) hk hop hf hname hb hn .i32 he (ha.ev hx) (ha.ev hy) (ha.ev hz) hat.m0 hat.g0 (λx=>e (by omega));rw [hd] at this;exact this
 .
  by_cases e:q.word=ow
  .simp only [if_pos e];obtain⟨g1,g2,g3,_⟩:=hit q hp e;rw [<-g1];exact Gp.Eff.word hok hat g2 g3
  .simp only [if_neg e];exact .refl hat
 .
  by_cases e:q.word=ow
  .simp_all
  .simp only [if_neg e];exact Sv.lk hs ⟨rfl,rfl,rfl,rfl⟩ (λo _ h2 _ _ _=>h2) (.inr ⟨rfl,rfl⟩) (λow φ e=>by simp_all) (λx h1 h2 _=>⟨h1,h2⟩) (λh=>⟨h,.inl hnb⟩) hmx (by simp_all)
 .
  by_cases e:q.word=ow
  .simp_all [if_pos,mL.mu,trans]
  simp_all [if_neg,mL.mu]
 .
  exfalso;by_cases e':q.word=ow
  .simp only [if_pos e'] at e;obtain⟨_,⟨_,_,g1,g2,_,_⟩,g3,_⟩:=hit q hp e';rcases e with e |e |e
   .omega
   .omega
   simp_all
  simp_all
 .
  by_cases e':q.word=ow
  .simp_all
  simp_all
 .
  obtain⟨oo,_,hm,hsx,_⟩:=hp.mu;by_cases e:q.word=ow
  .simp only [if_pos e,decide_eq_true e];exact k1 v' _ λφ hse=>by have:=(hit q hp e).2.2.2.1;have:=(hsx ow φ hse).1;omega
  .simp only [if_neg e,decide_eq_false e];refine k2 v' _ _ λφ hse=>?_;have hsx:=hsx ow φ hse;omega
theorem EJ(hok:p.Ok)(hs:s.Run)(h1:l.df=1)(hdt:l.dt=0){dl:Int}{x y:Operand}(ho:ops[i]? =some o)(hop:o.op= .call { callee:=.value (.func f),args:= #[x,y],argTypes:=ts })
 (hf:P.funcs[f]? =some fn) (hname:(fn.name == "runtime.NumGoroutine")=false) (hb:fn.body.isNone=true) (hn:Extern.findNext fn=none) (he:Extern.find fn=some (Extern.Atomic.update (Op.intArith .add) .i32 true))
 (hx:ev Γ x=some (.pointer (some p.muA))) (hy:ev Γ y=some (.int .i32 dl)) (lh:dV->sf) (hlh:∀q,(lh q).df=1/\(lh q).dt=0) (qn:dV->dV)
 (hit:∀q,my p mn (s.set l) q->IntKind.i32.wrap ((q.word:Int)+dl)=((qn q).word:Int)/\((qn q).c=q.c/\(qn q).wt=q.wt/\(qn q).sm=q.sm/\(qn q).cl=q.cl/\(qn q).cs=q.cs/\(qn q).h=q.h)/\(qn q).T=q.T/\Sv p mn (s.set l) q (s.set (lh q)) (qn q))
 (h:∀v' q,my p mn (s.set l) q->Qt (WV v0 P p T mn (s.set (lh q))) v' b cs N df (.inRegion ops rest::k) ((d,.int .i32 ((qn q).word:Int))::Γ))
 (hg:o.guard=none:=by exact rfl) (hd:o.dst=some d:=by exact rfl) (hN:blt d N=true:=by exact rfl) (hk:b.kind≠.early:=by exact λh=>nomatch h):Qt (WV v0 P p T mn (s.set l)) v b cs N df (.inRegion ops (i::rest)::k) Γ:=by
 refine pW hok hs.q (u:=λq=>.int .i32 ((qn q).word:Int)) (W:=λw q=>w.setCell p.muA (.int .i32 ((qn q).word:Int))) (Q:=qn) (S:=λq=>s.set (lh q)) (es:=λq=> #[CS p.muA,MB p.muA]) (λq=>hs.q) (λa ha w q hat hp=>?_) (λw q hat hp=>?_) (λq hp=>(hit q hp).2.2.2) (λq hp=>?_) (λa q _ hp e=>?_) (λq hp e=>(hit q hp).2.1.2.2.2.1.trans e) h hN
 .
  have:=stepG_add_atomic (P:=P) (main:=mn) (b:=b) (cs:=cs) (kk:=k) (rest:=rest) ho (ag hg _) hk hop hf hname hb hn .i32 he (ha.ev hx) (ha.ev hy) hat.m0 hat.g0;rw [hd,(hit q hp).1] at this;exact this
 .
  obtain⟨g1,g2,g3,_⟩:=hit q hp;exact Gp.Eff.word hok hat g2 g3
 .
  simp_all [mL.mu,trans]
 simp_all
theorem NT(ho:ops[i]? =some o)(hop:o.op= .call { callee:=.value (.func f),args:=xs,argTypes:=ts })(hf:P.funcs[f]? =some fn)(hb:fn.body.isNone=true)(a:Act):mayWake P (G (b.at a (.inRegion ops (i::rest)::k)) cs)=true:=by
 have hb:fn.body=none:=by simp_all
 have he:(b.at a (.inRegion ops (i::rest)::k)).eval (.func f)= .func (.func f) #[] #[]:=rfl;simp_all [Frame.at,mayWake,G]
theorem EH(hok:p.Ok)(hs:s.Run)(h1:l.df=1)(hdt:l.dt=0){x y z:Operand}(ho:ops[i]? =some o)(hop:o.op= .call { callee:=.value (.func f),args:= #[x,y,z],argTypes:=ts })
 (hf:P.funcs[f]? =some fn) (hname:(fn.name == "runtime.NumGoroutine")=false) (hb:fn.body.isNone=true) (hn:Extern.findNext fn=none) (he:Extern.find fn=some Extern.Sync.semrelease)
 (hx:ev Γ x=some (.pointer (some p.msA))) (l':sf) (hl':l'.df=1/\l'.dt=0) (hsv:∀q,my p mn (s.set l) q->Sv p mn (s.set l) q (s.set l') { q with T:=q.T+1 })
 (h:∀v',Qt (WV v0 P p T mn (s.set l')) v' b cs N df (.inRegion ops rest::k) ((d,.tuple #[])::Γ))
 (hg:o.guard=none:=by exact rfl) (hd:o.dst=some d:=by exact rfl) (hN:blt d N=true:=by exact rfl) (hk:b.kind≠.early:=by exact λh=>nomatch h):Qt (WV v0 P p T mn (s.set l)) v b cs N df (.inRegion ops (i::rest)::k) Γ:=by
 refine pW hok hs.q (u:=λq=>.tuple #[]) (W:=λw q=>w.setCell p.msA (.int .u32 (((q.T+1:Nat)):Int))) (Q:=λq=>{ q with T:=q.T+1 }) (S:=λq=>s.set l') (es:=λq=>semEvents p.msA) (λq=>hs.q) (λa ha w q hat hp=>?_) (λw q hat hp=>?_) hsv (λq hp=>?_) (λa q _ hp e=>NT ho hop hf hb a) (λq hp e=>e) (λv' _ _=>h v') hN
 .
  have hT:q.T≤1:=by obtain⟨_,_,_,_,_,_,_,h⟩:=hp.mu;exact h
  have:=stepG_semrelease (P:=P) (main:=mn) (b:=b) (cs:=cs) (kk:=k) (rest:=rest) ho (ag hg _) hk hop hf hname hb hn he (by rw [Array.getElem?_map];exact congrArg some (ha.ev hx)) hat.m1 hat.g1;grind [IntKind.wrap_u32]
 .
  exact Gp.Eff.sema (q':={ q with T:=q.T+1 }) hok hat ⟨rfl,rfl,rfl,rfl,rfl,rfl⟩ rfl
 simp_all [mL.mu,trans]
theorem Nk(hok:p.Ok)(hs:s.Run)(h1:l.df=1)(hdt:l.dt=0)(hqu:l.qu=1){x y z:Operand}(ho:ops[i]? =some o)(hop:o.op= .call { callee:=.value (.func f),args:= #[x,y,z],argTypes:=ts })
 (hf:P.funcs[f]? =some fn) (hname:(fn.name == "runtime.NumGoroutine")=false) (hb:fn.body.isNone=true) (hn:Extern.findNext fn=none) (he:Extern.find fn=some Extern.Sync.semacquire)
 (hx:ev Γ x=some (.pointer (some p.msA))) (l':sf) (hl':l'.df=1/\l'.dt=0) (hsv:∀q,my p mn (s.set l) q->q.T=1->Sv p mn (s.set l) q (s.set l') { q with T:=0 })
 (h:∀v',Qt (WV v0 P p T mn (s.set l')) v' b cs N df (.inRegion ops rest::k) ((d,.tuple #[])::Γ))
 (hg:o.guard=none:=by exact rfl) (hd:o.dst=some d:=by exact rfl) (hN:blt d N=true:=by exact rfl) (hk:b.kind≠.early:=by exact λh=>nomatch h):Qt (WV v0 P p T mn (s.set l)) v b cs N df (.inRegion ops (i::rest)::k) Γ:=λa ha hv _=>by
 refine .of ⟨hs.q,.inr (.inr (.inl ⟨.inl hqu,λv1 q hr hat hp=>⟨λhb'=>?_,λhb'=>?_⟩⟩))⟩
 .
  have hT:q.T=0:=hb'.elim And.right λe=>by
   have e1:s.rg=true:=e.1
   rw [hs.rg] at e1;cases e1
  exact stepG_semacquire_wait (P:=P) (main:=mn) (b:=b) (cs:=cs) (kk:=k) (rest:=rest) ho (ag hg _) hop hf hname hb hn he (by rw [Array.getElem?_map];exact congrArg some (ha.ev hx)) (by rw [hat.m1,hT];rfl)
 .
  have hT1:q.T≤1:=by obtain⟨_,_,_,_,_,_,_,h⟩:=hp.mu;exact h
  have hT:q.T=1:=by
   rcases eq_zero_or_pos q.T with e |e
   .exact absurd (.inl ⟨hqu,e⟩) hb'
   .omega
  have heff:p.Eff v1.toWorld (v1.toWorld.setCell p.msA (.int .u32 ((0:Nat):Int))) { q with T:=0 }:=Gp.Eff.sema (q':={ q with T:=0 }) hok hat ⟨rfl,rfl,rfl,rfl,rfl,rfl⟩ rfl;have hst:=stepG_semacquire (P:=P) (main:=mn) (b:=b) (cs:=cs) (kk:=k) (rest:=rest) ho (ag hg _) hk hop hf hname hb hn he (by rw [Array.getElem?_map];exact congrArg some (ha.ev hx)) hat.m1 (by omega) hat.g1;rw [hd,hT] at hst;refine⟨s.set l',{ q with T:=0 },_,_,_,semEvents p.msA,hst,heff,hsv q hp hT,mL.mu hs h1 hl'.1 (hl'.2.trans hdt.symm) (by omega) (.inr (.inr (.inr rfl))),λe=>?_,id,λ_=>⟨q,undef,true,h _ _ (ha.put hN) ((hv.rely hr).put hok heff) (sF.trans (by omega))⟩,λe=>?_⟩
  .rcases e with e |e |e
   .simp_all
   .simp_all
   simp_all
  .have e:s.q=true:=e;rw [hs.q] at e;cases e
end
end K
end Go.Proofs.YtflilincnacbpaaGreat
set_option linter.unusedVariables false
namespace Go.Proofs.YtflilincnacbpaaGreat
namespace K
open Go Go.Conc
@[reducible] def qO(c:Nat)(aw:Bool)(ow φ:Nat):sf:={ df:=1,aw:=cond aw 1 0,phi:=c+cond aw 5 6,se:=some (ow,φ) }
structure od(ow:Nat)(st aw:Bool):Prop where
 lt:ow < 820
 st:st=true->aw=true
 aw:aw=true->ow / 2 % 2=1/\ow / 4 % 2=0
def Bm(ow:Nat):Nat:=if ow / 4 % 2=0 then ow+1 - ow % 2 else ow
def vH(ow:Nat):Nat:=if ow % 2=0/\ow / 4 % 2=0 then Bm ow else Bm ow+8
def Bl(ow:Nat)(st:Bool):Nat:=if st=true/\ow % 2=1 then vH ow+4 else vH ow
def DU(ow:Nat)(st aw:Bool):Nat:=if aw=true then Bl ow st - 2 else Bl ow st
theorem g7{q:dV}(h:q.L≤1/\q.W≤1/\q.S≤1):q.word % 2=q.L/\q.word / 2 % 2=q.W/\q.word / 4 % 2=q.S/\q.word / 8=q.N:=by
 grind
section
variable {p:Gp}{mn:Bool}{s:Ph}{q:dV}
theorem OO(hs:s.Run){l:sf}(hmx:l.mx≤1)(hdt:l.dt≤l.hd)(hnb:l.nb=0):Sv p mn (s.set l) q (s.set { l with se:=some (q.word,q.f) }) q:=
 by simp_all [Sv.lk,Nat.le_refl]
theorem K5{aw:Bool}{f:Nat}{se0:Option (Nat×Nat)}(hp:my p mn (s.set { df:=1,aw:=cond aw 1 0,phi:=f,se:=se0 }) q):q.word < 820/\(aw=true->q.word / 2 % 2=1/\q.word / 4 % 2=0)/\∀ow φ,se0=some (ow,φ)->q.f≤φ:=by
 obtain⟨o,h1,⟨k1,k2,k3,k4,k5,k6⟩,hse,_,_,hN,hT⟩:=hp.mu;grind
theorem wO{l:sf}(hp:my p mn (s.set l) q):l.phi+2 * q.T≤q.f:=by
 obtain⟨o,h1,⟨k1,k2,k3,k4,k5,k6⟩,_⟩:=hp.mu;omega
theorem kp{l:sf}(hp:my p mn (s.set l) q):q.L≤1/\q.W≤1/\q.S≤1:=by
 obtain⟨o,h1,h2,_⟩:=hp.mu;exact h2.le
theorem KX(hs:s.Run){c φ:Nat}{se0:Option (Nat×Nat)}(hw:q.word=0)(hf:0 < q.f):Sv p mn (s.set { df:=1,phi:=c+6,se:=se0 }) q (s.set { df:=1,hd:=1,phi:=c+4 }) { q with L:=1,f:=q.f - 1 }:=by
 have hw:q.L=0/\q.W=0/\q.S=0/\q.N=0:=by simp only [dV.word] at hw;omega
 refine Sv.lk hs ⟨rfl,rfl,rfl,rfl⟩ (λo hod hm hse hnb _=>?_) (.inl (by show q.f - 1 < q.f;omega)) (λow φ e=>by cases e) (λx h1 h2 _=>?_) (λ_=>⟨zero_le _,.inl rfl⟩) (le_of_ble_eq_true rfl) (le_of_ble_eq_true rfl)
 .obtain⟨k1,k2,k3,k4,k5,k6⟩:=hm;dsimp only at k2 k3 k4 k5 k6;refine⟨?_,?_,?_,?_,?_,?_⟩ <;> (try dsimp only) <;> omega
 .dsimp only;omega
theorem KQ(hs:s.Run){c ow φ:Nat}(hw:q.word=ow)(h1:ow % 2=1)(h2:ow / 2 % 2=0)(h4:ow / 4 % 2=0)(hle:q.L≤1/\q.W≤1/\q.S≤1)(hf:0 < q.f):Sv p mn (s.set (qO c false ow φ)) q (s.set (qO c true (ow+2) (q.f - 1))) { q with W:=1,f:=q.f - 1 }:=by
 obtain⟨w1,w2,w3,w4⟩:=g7 hle;rw [hw] at w1 w2 w3 w4;refine Sv.lk hs ⟨rfl,rfl,rfl,rfl⟩ (λo hod hm hse hnb _=>?_) (.inl (by show q.f - 1 < q.f;omega)) (λow φ e=>by cases e;exact .inl ⟨Nat.le_refl _,λ_=>by subst hw;simp only [dV.word] at *;omega⟩) (λx h1 h2 _=>?_) (λ_=>⟨zero_le _,.inl rfl⟩) (le_of_ble_eq_true rfl) (le_of_ble_eq_true rfl)
 .obtain⟨k1,k2,k3,k4,k5,k6⟩:=hm;dsimp only [cond] at k2 k3 k4 k5 k6;refine⟨?_,?_,?_,?_,?_,?_⟩ <;> (try dsimp only [cond]) <;> omega
 .dsimp only;omega
@[reducible] def O3(aw:Bool)(q:dV):dV:={ q with L:=1,W:=cond aw 0 q.W,f:=q.f - 1 }
theorem IY{ow:Nat}{st aw:Bool}(ho:od ow st aw)(hw:q.word=ow)(hle:q.L≤1/\q.W≤1/\q.S≤1)(h0:ow % 2=0)(h4:ow / 4 % 2=0):(O3 aw q).word=DU ow st aw:=by
 obtain⟨w1,w2,w3,w4⟩:=g7 hle;rw [hw] at w1 w2 w3 w4;have hw':q.L+2 * q.W+4 * q.S+8 * q.N=ow:=hw;have e3:Bl ow st=ow+1:=by unfold Bl vH Bm;simp_all
 unfold DU;rw [e3];cases aw with
 |true=>
  have:=ho.aw rfl;grind
 |false=>
  grind
theorem OS(hs:s.Run){c ow φ:Nat}{st aw:Bool}(ho:od ow st aw)(hw:q.word=ow)(hle:q.L≤1/\q.W≤1/\q.S≤1)(h0:ow % 2=0)(h4:ow / 4 % 2=0)(hf:0 < q.f):Sv p mn (s.set (qO c aw ow φ)) q (s.set { df:=1,hd:=1,phi:=c+4 }) (O3 aw q):=by
 obtain⟨w1,w2,w3,w4⟩:=g7 hle;rw [hw] at w1 w2 w3 w4;refine Sv.lk hs ⟨rfl,rfl,rfl,rfl⟩ (λo hod hm hse hnb _=>?_) (.inl (by grind)) (λow φ e=>by cases e) (λx h1 h2 _=>?_) (λ_=>⟨zero_le _,.inl rfl⟩) (le_of_ble_eq_true rfl) (le_of_ble_eq_true rfl)
 .obtain⟨k1,k2,k3,k4,k5,k6⟩:=hm;cases aw with
  |true=>
   have:=ho.aw rfl;dsimp only [cond] at k2 k3 k4 k5 k6;refine⟨?_,?_,?_,?_,?_,?_⟩ <;> (grind) <;> omega
  |false=>
   dsimp only [cond] at k2 k3 k4 k5 k6;refine⟨?_,?_,?_,?_,?_,?_⟩ <;> (simp_all) <;> omega
 omega
@[reducible] def O2(st aw:Bool)(q:dV):dV:={ q with N:=q.N+1,W:=cond aw 0 q.W,S:=cond st 1 q.S,f:=q.f - 1 }
theorem zI{ow:Nat}{st aw:Bool}(ho:od ow st aw)(hw:q.word=ow)(hle:q.L≤1/\q.W≤1/\q.S≤1)(h0:¬(ow % 2=0/\ow / 4 % 2=0)):(O2 st aw q).word=DU ow st aw:=by
 obtain⟨w1,w2,w3,w4⟩:=g7 hle;rw [hw] at w1 w2 w3 w4;have hw':q.L+2 * q.W+4 * q.S+8 * q.N=ow:=hw;have hst:=ho.st;have haw:=ho.aw;have e2:vH ow=ow+8:=by unfold vH Bm;grind
 unfold DU Bl;grind
theorem OR(hs:s.Run){c ow φ:Nat}{st aw:Bool}(ho:od ow st aw)(hw:q.word=ow)(hle:q.L≤1/\q.W≤1/\q.S≤1)(h0:¬(ow % 2=0/\ow / 4 % 2=0))(hf:0 < q.f):Sv p mn (s.set (qO c aw ow φ)) q (s.set { df:=1,qu:=1,phi:=c+4,se:=some (DU ow st aw,q.f - 1) }) (O2 st aw q):=by
 have hqw:=zI ho hw hle h0;obtain⟨w1,w2,w3,w4⟩:=g7 hle;rw [hw] at w1 w2 w3 w4;refine Sv.lk hs ⟨rfl,rfl,rfl,rfl⟩ (λo hod hm hse hnb _=>?_) (.inl (by grind)) (λow φ e=>by simp_all) (λx h1 h2 _=>?_) (λ_=>⟨zero_le _,.inl rfl⟩) (le_of_ble_eq_true rfl) (le_of_ble_eq_true rfl)
 .obtain⟨k1,k2,k3,k4,k5,k6⟩:=hm;cases aw with
  |true=>
   have:=ho.aw rfl;cases st with
   |true=>
    dsimp only [cond] at k2 k3 k4 k5 k6;refine⟨?_,?_,?_,?_,?_,?_⟩ <;> (grind) <;> omega
   |false=>
    dsimp only [cond] at k2 k3 k4 k5 k6;refine⟨?_,?_,?_,?_,?_,?_⟩ <;> (grind) <;> omega
  |false=>
   cases st with
   |true=>cases ho.st rfl
   |false=>
    dsimp only [cond] at k2 k3 k4 k5 k6;refine⟨?_,?_,?_,?_,?_,?_⟩ <;> (simp_all) <;> omega
 grind
theorem ON(hs:s.Run){c:Nat}{se0:Option (Nat×Nat)}(hT:q.T=1):Sv p mn (s.set { df:=1,qu:=1,phi:=c+4,se:=se0 }) q (s.set { df:=1,tk:=1,phi:=c+5,se:=se0 }) { q with T:=0 }:=by
 refine Sv.lk hs ⟨rfl,rfl,rfl,rfl⟩ (λo hod hm hse hnb _=>?_) (.inr ⟨rfl,rfl⟩) (λow φ e=>.inr e) (λx h1 h2 _=>⟨h1,h2⟩) (λ_=>⟨zero_le _,.inl rfl⟩) (le_of_ble_eq_true rfl) (le_of_ble_eq_true rfl);obtain⟨k1,k2,k3,k4,k5,k6⟩:=hm;dsimp only at k2 k3 k4 k5 k6;refine⟨?_,?_,?_,?_,?_,?_⟩ <;> (try dsimp only) <;> omega
@[reducible] def QG(c:Nat)(q:dV):sf:=if q.S=1 then { df:=1,tk:=1,phi:=c+5,nb:=q.N } else qO c true q.word q.f
theorem Hr(hs:s.Run){c:Nat}{se0:Option (Nat×Nat)}(hle:q.L≤1/\q.W≤1/\q.S≤1):Sv p mn (s.set { df:=1,tk:=1,phi:=c+5,se:=se0 }) q (s.set (QG c q)) q:=by
 by_cases e:q.S=1
 .rw [show QG c q={ df:=1,tk:=1,phi:=c+5,nb:=q.N } from if_pos e];exact Sv.lk hs ⟨rfl,rfl,rfl,rfl⟩ (λo _ h2 _ _ _=>h2) (.inr ⟨rfl,rfl⟩) (λow φ e=>by cases e) (λx h1 h2 _=>⟨h1,h2⟩) (λ_=>⟨Nat.le_refl _,.inr ⟨e,rfl⟩⟩) (le_of_ble_eq_true rfl) (le_of_ble_eq_true rfl)
 .rw [show QG c q=qO c true q.word q.f from if_neg e];refine Sv.lk hs ⟨rfl,rfl,rfl,rfl⟩ (λo hod hm _ _ _=>?_) (.inr ⟨rfl,rfl⟩) (λow φ e=>by cases e;exact .inl ⟨Nat.le_refl _,λ_=>rfl⟩) (λx h1 h2 _=>⟨h1,h2⟩) (λ_=>⟨zero_le _,.inl rfl⟩) (le_of_ble_eq_true rfl) (le_of_ble_eq_true rfl);obtain⟨k1,k2,k3,k4,k5,k6⟩:=hm;dsimp only at k2 k3 k4 k5 k6;refine⟨?_,?_,?_,?_,?_,?_⟩ <;> (try dsimp only [cond]) <;> omega
@[reducible] def Q1(x:Bool)(q:dV):dV:={ q with L:=1,N:=q.N - 1,S:=cond x 0 1,f:=q.f - 1 }
theorem zJ{c n0:Nat}(hn:0 < n0)(hp:my p mn (s.set { df:=1,tk:=1,phi:=c+5,nb:=n0 }) q):q.S=1/\q.L=0/\q.W=0/\n0≤q.N:=by
 obtain⟨o,h1,⟨k1,k2,k3,k4,k5,k6⟩,hse,h2,h3,hN,hT⟩:=hp.mu;grind
theorem KR(hs:s.Run){c n0:Nat}{x:Bool}(hn:0 < n0)(hx:x=false->2≤n0)(hp:my p mn (s.set { df:=1,tk:=1,phi:=c+5,nb:=n0 }) q):Sv p mn (s.set { df:=1,tk:=1,phi:=c+5,nb:=n0 }) q (s.set { df:=1,hd:=1,phi:=c+4 }) (Q1 x q):=by
 obtain⟨g1,g2,g3,g4⟩:=zJ hn hp;have hf:=wO hp;try dsimp only at hf
 refine Sv.lk hs ⟨rfl,rfl,rfl,rfl⟩ (λo hod hm hse hnb _=>?_) (.inl (by grind)) (λow φ e=>by cases e) (λx h1 h2 h3=>?_) (λ_=>⟨zero_le _,.inl rfl⟩) (le_of_ble_eq_true rfl) (le_of_ble_eq_true rfl)
 .obtain⟨k1,k2,k3,k4,k5,k6⟩:=hm;dsimp only at k2 k3 k4 k5 k6;cases x with
  |true=>refine⟨?_,?_,?_,?_,?_,?_⟩ <;> (simp_all) <;> omega
  |false=>
   have:=hx rfl;refine⟨?_,?_,?_,?_,?_,?_⟩ <;> (simp_all) <;> omega
 simp_all
@[reducible] def J9(c:Nat)(q:dV):sf:=if q.S=1 then { df:=1,rh:=1,phi:=c+2 } else if 0 < q.N/\q.W=0 then { df:=1,ty:=1,phi:=c+3,se:=some (8 * q.N,q.f - 1) } else { df:=1,phi:=c }
theorem OT(hs:s.Run){c:Nat}(hp:my p mn (s.set { df:=1,hd:=1,phi:=c+4 }) q):q.L=1/\Sv p mn (s.set { df:=1,hd:=1,phi:=c+4 }) q (s.set (J9 c q)) { q with L:=0,f:=q.f - 1 }:=by
 have hf:=wO hp;obtain⟨o,h1,⟨k1,k2,k3,k4,k5,k6⟩,hse,h2,h3,hN,hT⟩:=hp.mu;dsimp only at k2 k3 k4 k5 k6;try dsimp only at h2 h3
 try dsimp only at hf
 refine⟨by omega,?_⟩;by_cases e:q.S=1
 .rw [show J9 c q={ df:=1,rh:=1,phi:=c+2 } from if_pos e];refine Sv.lk hs ⟨rfl,rfl,rfl,rfl⟩ (λo hod hm hse hnb _=>?_) (.inl (by show q.f - 1 < q.f;omega)) (λow φ e=>by cases e) (λx h1 h2 _=>⟨h1,h2⟩) (λ_=>⟨zero_le _,.inl rfl⟩) (le_of_ble_eq_true rfl) (le_of_ble_eq_true rfl);obtain⟨k1,k2,k3,k4,k5,k6⟩:=hm;dsimp only at k2 k3 k4 k5 k6;refine⟨?_,?_,?_,?_,?_,?_⟩ <;> (try dsimp only) <;> omega
 .by_cases e2:0 < q.N/\q.W=0
  .rw [show J9 c q={ df:=1,ty:=1,phi:=c+3,se:=some (8 * q.N,q.f - 1) } from(if_neg e).trans (if_pos e2)];refine Sv.lk hs ⟨rfl,rfl,rfl,rfl⟩ (λo hod hm hse hnb _=>?_) (.inl (by show q.f - 1 < q.f;omega)) (λow φ e=>by cases e;exact .inl ⟨Nat.le_refl _,λ_=>by simp only [dV.word];omega⟩) (λx h1 h2 _=>⟨h1,h2⟩) (λ_=>⟨zero_le _,.inl rfl⟩) (le_of_ble_eq_true rfl) (le_of_ble_eq_true rfl);obtain⟨k1,k2,k3,k4,k5,k6⟩:=hm;dsimp only at k2 k3 k4 k5 k6;refine⟨?_,?_,?_,?_,?_,?_⟩ <;> (try dsimp only) <;> omega
  .rw [show J9 c q={ df:=1,phi:=c } from(if_neg e).trans (if_neg e2)];refine Sv.lk hs ⟨rfl,rfl,rfl,rfl⟩ (λo hod hm hse hnb _=>?_) (.inl (by show q.f - 1 < q.f;omega)) (λow φ e=>by cases e) (λx h1 h2 _=>⟨h1,h2⟩) (λ_=>⟨zero_le _,.inl rfl⟩) (le_of_ble_eq_true rfl) (le_of_ble_eq_true rfl);obtain⟨k1,k2,k3,k4,k5,k6⟩:=hm;dsimp only at k2 k3 k4 k5 k6;refine⟨?_,?_,?_,?_,?_,?_⟩ <;> (try dsimp only) <;> omega
@[reducible] def QF(c:Nat)(q:dV):sf:=if q.word % 8=0/\0 < q.N then { df:=1,ty:=1,phi:=c+3,se:=some (q.word,q.f) } else { df:=1,phi:=c }
theorem OM(hs:s.Run){c:Nat}{se0:Option (Nat×Nat)}(hle:q.L≤1/\q.W≤1/\q.S≤1):Sv p mn (s.set { df:=1,ty:=1,phi:=c+3,se:=se0 }) q (s.set (QF c q)) q:=by
 obtain⟨w1,w2,w3,w4⟩:=g7 hle;by_cases e:q.word % 8=0/\0 < q.N
 .rw [show QF c q={ df:=1,ty:=1,phi:=c+3,se:=some (q.word,q.f) } from if_pos e];exact Sv.lk hs ⟨rfl,rfl,rfl,rfl⟩ (λo _ h2 _ _ _=>h2) (.inr ⟨rfl,rfl⟩) (λow φ e=>by cases e;exact .inl ⟨Nat.le_refl _,λ_=>rfl⟩) (λx h1 h2 _=>⟨h1,h2⟩) (λ_=>⟨zero_le _,.inl rfl⟩) (le_of_ble_eq_true rfl) (le_of_ble_eq_true rfl)
 .rw [show QF c q={ df:=1,phi:=c } from if_neg e];refine Sv.lk hs ⟨rfl,rfl,rfl,rfl⟩ (λo hod hm _ _ _=>?_) (.inr ⟨rfl,rfl⟩) (λow φ e=>by cases e) (λx h1 h2 _=>⟨h1,h2⟩) (λ_=>⟨zero_le _,.inl rfl⟩) (le_of_ble_eq_true rfl) (le_of_ble_eq_true rfl);obtain⟨k1,k2,k3,k4,k5,k6⟩:=hm;simp only [dV.word] at e;dsimp only at k2 k3 k4 k5 k6;refine⟨?_,?_,?_,?_,?_,?_⟩ <;> (try dsimp only) <;> omega
@[reducible] def TR(q:dV):dV:={ q with N:=q.N - 1,W:=1,f:=q.f - 1 }
theorem KP(hs:s.Run){c φ ow:Nat}(hw:q.word=ow)(h8:ow % 8=0)(hn:0 < ow)(hle:q.L≤1/\q.W≤1/\q.S≤1)(hf:0 < q.f):(TR q).word=ow - 8+2/\Sv p mn (s.set { df:=1,ty:=1,phi:=c+3,se:=some (ow,φ) }) q (s.set { df:=1,rn:=1,phi:=c+2 }) (TR q):=by
 have hw':q.L+2 * q.W+4 * q.S+8 * q.N=ow:=hw;refine⟨by grind,?_⟩;refine Sv.lk hs ⟨rfl,rfl,rfl,rfl⟩ (λo hod hm hse hnb _=>?_) (.inl (by grind)) (λow φ e=>by cases e) (λx h1 h2 _=>?_) (λ_=>⟨zero_le _,.inl rfl⟩) (le_of_ble_eq_true rfl) (le_of_ble_eq_true rfl)
 .obtain⟨k1,k2,k3,k4,k5,k6⟩:=hm;dsimp only at k2 k3 k4 k5 k6;refine⟨?_,?_,?_,?_,?_,?_⟩ <;> (simp_all) <;> omega
 omega
theorem OP(hs:s.Run){c:Nat}:Sv p mn (s.set { df:=1,rn:=1,phi:=c+2 }) q (s.set { df:=1,phi:=c }) { q with T:=q.T+1 }:=by
 refine Sv.lk hs ⟨rfl,rfl,rfl,rfl⟩ (λo hod hm hse hnb _=>?_) (.inr ⟨rfl,rfl⟩) (λow φ e=>by cases e) (λx h1 h2 _=>⟨h1,h2⟩) (λ_=>⟨zero_le _,.inl rfl⟩) (le_of_ble_eq_true rfl) (le_of_ble_eq_true rfl);obtain⟨k1,k2,k3,k4,k5,k6⟩:=hm;dsimp only at k2 k3 k4 k5 k6;refine⟨?_,?_,?_,?_,?_,?_⟩ <;> (try dsimp only) <;> omega
theorem OQ(hs:s.Run){c:Nat}:Sv p mn (s.set { df:=1,rh:=1,phi:=c+2 }) q (s.set { df:=1,phi:=c }) { q with T:=q.T+1 }:=by
 refine Sv.lk hs ⟨rfl,rfl,rfl,rfl⟩ (λo hod hm hse hnb _=>?_) (.inr ⟨rfl,rfl⟩) (λow φ e=>by cases e) (λx h1 h2 _=>⟨h1,h2⟩) (λ_=>⟨zero_le _,.inl rfl⟩) (le_of_ble_eq_true rfl) (le_of_ble_eq_true rfl);obtain⟨k1,k2,k3,k4,k5,k6⟩:=hm;dsimp only at k2 k3 k4 k5 k6;refine⟨?_,?_,?_,?_,?_,?_⟩ <;> (try dsimp only) <;> omega
end
end K
