import Derived.Test.YtmbkabgllafffaaGreatVKB11
open Nat
open List hiding mem_of_getElem?
open Array hiding mem_of_getElem? mk
set_option linter.unusedVariables false
set_option linter.unusedSimpArgs false
namespace Go.Proofs.YtmbkabgllafffaaGreat
open K Go Go.Proofs
theorem Ao:((List.range 6).all λC=>(List.range 6).all λn=> !(ble n C) || decide (il 1200 1200 (C:Int) (n:Int)=some ((jy C C [] 0).filter λb=>decide (b.length=n))))=true:=by decide+kernel
theorem TZ{p:Nat->Nat->Prop}[∀C n,Decidable (p C n)](h:((List.range 6).all λC=>(List.range 6).all λn=> !(ble n C) || decide (p C n))=true){C n:Nat}(hC:C < 6)(hn:n≤C):p C n:=by
 rw [List.all_eq_true] at h;have h1:=h C (List.mem_range.2 hC);grind [List.all_eq_true,Nat.ble_eq_true_of_le]
theorem CH{C n:Nat}(hC:C < 6)(hn:n≤C):il 1200 1200 (C:Int) (n:Int)=some ((jy C C [] 0).filter λb=>decide (b.length=n)):=TZ (p:=λC n=>il 1200 1200 (C:Int) (n:Int)=some ((jy C C [] 0).filter λb=>decide (b.length=n))) Ao hC hn
theorem yz:∀(l:List (List Int)) (b:List Int),(oe b l).length≤b.length/\∀x∈l,(oe b l).length≤x.length
 |[],b=>⟨Nat.le_refl _,λx hx=>by cases hx⟩
 |x::l,b=>by
  have ih:=yz l (if x.length < b.length then x else b)
  refine⟨Nat.le_trans ih.1 (by grind),λy hy=>?_⟩
  rcases mem_cons.1 hy with rfl |hy
  .
   exact Nat.le_trans ih.1 (by grind)
  .
   exact ih.2 y hy
theorem xq:∀(l:List (List Int)) (b:List Int),(b::l).find? (λy=>decide (y.length=(oe b l).length))=some (oe b l)
 |[],b=>by rw [find?_cons];simp [oe]
 |x::l,b=>by
  have ih:=xq l (if x.length < b.length then x else b)
  have e:oe b (x::l)=oe (if x.length < b.length then x else b) l:=rfl
  have hle:=(yz l (if x.length < b.length then x else b)).1
  rw [e]
  grind
theorem IR{α:Type}{f:Nat->Option α}{M N:Nat}{x:α}(hM:M < N)(h:f M=some x)(hn:∀n,n < M->f n=none):(List.range N).findSome? f=some x:=by
 have e:List.range N=List.range M++M::List.range' (M+1) (N - M - 1):=by
  rw [List.range_eq_range',List.range_eq_range',<-List.range'_succ,show N - M - 1+1=N - M by omega];have:=List.range'_append (s:=0) (m:=M) (n:=N - M) (step:=1);grind
 grind
def J0(C:Nat)(L:List (List Int)):List (List Int):=(List.range (C+1)).flatMap λn=>L.filter λb=>decide (b.length=n)
theorem Ak{C:Nat}{L:List (List Int)}{p:List Int->Bool}(hL:∀x∈L,x.length≤C):(J0 C L).find? p=match L.filter p with
 |[]=>none
 |b::l=>some (oe b l):=by
 unfold J0
 rw [List.find?_flatMap]
 have e:∀n,(L.filter λb=>decide (b.length=n)).find? p=(L.filter p).find? λb=>decide (b.length=n):=λn=>by
  grind
 rw [show(λn=>(L.filter λb=>decide (b.length=n)).find? p)=λn=>(L.filter p).find? λb=>decide (b.length=n) from funext e]
 have hF:∀x∈L.filter p,x.length≤C:=λx hx=>hL x (List.mem_filter.1 hx).1
 generalize L.filter p=F at *
 cases F with
 |nil=>simp_all
 |cons b l=>
  have hle:=yz l b;have hm:(oe b l).length≤C:=Nat.le_trans hle.1 (hF b (mem_cons_self ..));refine IR (M:=(oe b l).length) (by omega) (xq l b) λn hn=>?_;grind
def je(m:ae)(d:Nat)(L:List (List Int))(t:List Int):Bool:=L.all λb=> !sL (frz m d λn=>decide (n∈t)) (λc=>decide (c∈b)) d
theorem AA{m:ae}(v:Vd m){d:Nat}{L:List (List Int)}:je m d L ((List.range (mC m).toNat).map λ(i:Nat)=>(i:Int))=true:=by
 unfold je;rw [List.all_eq_true];intro b _;rw [Bool.not_eq_true',sL,Bool.eq_false_iff];rw [ne_eq,List.any_eq_true];rintro⟨n,hn,h⟩;rw [List.mem_range'] at hn;obtain⟨i,hi,rfl⟩:=hn;rw [yu] at hi;rw [Ha,List.any_eq_true] at h;obtain⟨c,hc,h⟩:=h;rw [List.mem_range] at hc;rw [Bool.and_eq_true,decide_eq_true_iff,decide_eq_true_iff] at h
 have hb:yK (frz m d λn=>decide (n∈(List.range (mC m).toNat).map λ(i:Nat)=>(i:Int))) (d+1 * i) c=none:=by
  unfold yK;have hlt:d+1 * i < (mD m).length:=by omega
  have e:(mD (frz m d λn=>decide (n∈(List.range (mC m).toNat).map λ(i:Nat)=>(i:Int))))[d+1 * i]?.getD []=((mD m)[d+1 * i]).map λ_=>[]:=by
   show(Ed (mD m) d _)[d+1 * i]?.getD []=_;unfold Ed;rw [List.getElem?_mapIdx,List.getElem?_eq_getElem hlt];show List.map _ _=_;refine List.map_congr_left λl hl=>?_;rw [List.filter_eq_nil_iff];intro x hx;have:=v.x5 _ (List.getElem_mem hlt) l hl x hx;have hm:x∈(List.range (mC m).toNat).map λ(i:Nat)=>(i:Int):=List.mem_map.2 ⟨x.toNat,by grind,by omega⟩;grind
  rw [e];unfold yJ;rw [List.findSome?_eq_none_iff];intro l hl;obtain⟨_,_,rfl⟩:=List.mem_map.1 hl;rfl
 grind [kP]
theorem Av{m:ae}(v:Vd m):((List.range (mC m).toNat).map λ(i:Nat)=>(i:Int))∈kp m:=by
 have c1:=v.c1;refine AX ⟨λx hx=>?_,?_⟩
 .grind
 simp_all [List.pairwise_map,List.pairwise_lt_range]
def pR(m:ae)(d:Int):List Int×Int:=if¬(mU m=0) then([],mU m) else if¬(0≤d/\d≤((mD m).length:Int) - 1) then([],3) else if(jL m fa).length=0 then([],9) else
 match (kp m).filter (je m d.toNat (jL m fa)) with
 |[]=>([],0)
 |b::l=>(oe b l,0)
theorem PS{m:ae}(v:Vd m){b:List Int}(h:Bg (mC m) b):b.length≤(mC m).toNat:=by
 have c1:=v.c1;refine qJ (mC m).toNat b (h.asc.imp λh=>by omega) λx hx=>?_;have:=h.rng x hx;omega
def U2{β:Type}(o:Option β):Except β Unit:=match o with
 |some x=>.error x
 |none=>.ok ()
theorem tZ{β:Type}{p:List Int->Bool}{g:List Int->β}:∀(l:List (List Int)) (j:Nat),eu (λ(_:Unit) _ x=>if p x=true then Except.error (g x) else .ok ()) j l ()=U2 ((l.find? p).map g)
 |[],_=>rfl
 |x::l,j=>by
  rw [eu,find?_cons]
  cases h:p x with
  |true=>simp [U2]
  |false=>simp only [Bool.false_eq_true,if_false];exact tZ l (j+1)
theorem QO{m:ae}{d:Int}:NQ m [] [d] []=decide (0≤d/\d≤((mD m).length:Int) - 1):=by simp [NQ,yZ,vS]
theorem CY{k:Nat}{l:List Int}:nV k l=pj k l:=by kernel_rfl
theorem Pi{m:ae}{d:Nat}{L:List (List Int)}(v:Vd m)(hL:∀b∈L,Bg (mC m) b)(hl:L.length≤32)(hd:d≤(mD m).length):cS 1200 (L.map bf) m (d:Int)=some (L.any λb=>sL m (λc=>decide (c∈b)) d):=by
 unfold cS gJ
 have key:=mF (T:=Int) (f:=cD 1200 (L.map bf) m (d:Int)) L (λ(_:Unit) j=>j) (λ_ j b=>if sL m (λc=>decide (c∈b)) d=true then Except.error (j:Int) else .ok ()) (λ_ _=>True) (λr=>some r)
  (λn s j hj _=>by
   have hck:ck ((j:Int)+1)=some ((j:Int)+1):=cM (by omega) (by omega);have hg:aF (L.map bf) (j:Int)=some (bf L[j]):=Pj (by omega) (by simp_all);refine⟨?_,λ_ _=>trivial⟩;rw [cD,if_pos (by simp_all),hg,bs,kT,zZ v (by omega) (hL _ (List.getElem_mem hj)) hd,bs,bs];grind)
  (λn s _=>by simp_all [cD,if_neg,length_map]) (n:=1200) (s0:=()) (by omega) trivial
 rw [show cD 1200 (L.map bf) m (d:Int) 1200 0=_ from key,rf];cases e:L.findIdx? λb=>sL m (λc=>decide (c∈b)) d with
 |some i=>
  obtain⟨h1,h2,_⟩:=List.findIdx?_eq_some_iff_getElem.1 e;rw [nE,bs];have:(L.any λb=>sL m (λc=>decide (c∈b)) d)=true:=List.any_eq_true.2 ⟨_,List.getElem_mem h1,h2⟩;simp_all
 |none=>
  rw [lU,bs];simp_all
theorem CC{m:ae}{d:Int}(hs:Sm m):jH 1200 m d=some (pR m d):=by
 unfold jH pR;rw [Fq hs (by omega) (by simp) (by simp) (by simp),bs];by_cases hc:mU m=0
 .have v:=Vd.of hc;have c1:=v.c1;have c5:=v.c5;simp only [hc,QO,not_true_eq_false,if_false,decide_eq_true_eq];by_cases hn:0≤d/\d≤((mD m).length:Int) - 1
  .simp only [hn,and_self,not_true_eq_false,if_false];have hl:=vv v (but:=fa);have hL:∀x∈jL m fa,Bg (mC m) x:=λx h=>yB v h;by_cases h0:(jL m fa).length=0
   .simp_all [if_pos,mJ]
   .rw [if_neg h0,if_neg h0];obtain⟨d',rfl⟩:∃d':Nat,d=d':=⟨d.toNat,by omega⟩;simp only [pY,not_true_eq_false,if_false,Int.toNat_natCast];generalize hE:jL m fa=L at *;unfold i8;have hC:m.1=(((mC m).toNat:Nat):Int):=by grind
    have h:=ve (σ:=List Int×Bool) (k:=1200) (Y:=oO (λ(y10:(List Int)) (p12:Int)=>
     (iT 1200 m (d':Int) p12).bind λr14=>
     gk r14 (none) (λq15=>(cS 1200 (L.map bf) q15 (d':Int)).bind λr19=>
     if¬(r19=true) then((cL (bD (length y10+length [p12]))).bind λ_=>
     some (y10++[p12],true)) else(some (y10,true))))) (C:=(mC m).toNat) (by omega) (by omega)
     (λs b=>(if je m d' L b then s.1++[bf b] else s.1,false)) (λr s=>s.2=false/\s.1.length+r≤1000) (mC m).toNat 1200 [] 0 ([],false) 0 (by omega) (by omega) (by omega) tV (λr s b' hb' hI=>by
      obtain⟨y,q⟩:=s;obtain⟨rfl,hI⟩:q=false/\y.length+(r+1)≤1000:=hI;have hbg:=sw v hb';have hset:=hbg.set c5;have hfz:frz m (d':Int) (ji (bf b'))=frz m (d':Int) λn=>decide (n∈b'):=FD v λc h0 _=>hset.2 c h0
      have hfine:(L.any λb=>sL (frz m (d':Int) λn=>decide (n∈b')) (λc=>decide (c∈b)) d')= !je m d' L b':=by
       unfold je;grind
      unfold oO;simp only [];rw [CB v (by omega) hset.1,hfz,bs,pY,Pi (IS v) hL hl (by rw [yu];omega),hfine,bs];cases je m d' L b' with
      |true=>
       simp only [Bool.not_true,Bool.false_eq_true,not_false_eq_true,if_true];grind [cO,bD,bs,bf]
      |false=>
       grind) ⟨rfl,by have:=nF v;grind [kp]⟩
    rw [hC,show de 1200 _ (((mC m).toNat:Nat):Int) 1200 0 0 ([],false)=_ from h.1,bs,bs,mT (p:=je m d' L) (h:=bf)];simp only [Bool.false_eq_true,if_false,nil_append];rw [show(jy (mC m).toNat (mC m).toNat [] 0)=kp m from rfl,CY];have hmem:((List.range (mC m).toNat).map λ(i:Nat)=>(i:Int))∈(kp m).filter (je m d' L):=List.mem_filter.2 ⟨Av v,AA v⟩;have hB:∀x∈(kp m).filter (je m d' L),Bg (mC m) x:=λx hx=>sw v (List.mem_filter.1 hx).1;have hBl:((kp m).filter (je m d' L)).length≤32:=Nat.le_trans (List.length_filter_le _ _) (nF v);generalize (kp m).filter (je m d' L)=F at *;cases F with
    |nil=>cases hmem
    |cons b l=>
     have hb:=hB b mem_cons_self;have hl':=λx h=>hB x (mem_cons_of_mem _ h);rw [CX (by omega) ⟨by omega,c5⟩ hb hl' (by grind),bs]
     have hm:Bg (mC m) (oe b l):=by
      grind [IY]
     grind [nN,bs]
  simp_all [not_false_eq_true,if_true,mJ,if_pos]
 simp_all [not_false_eq_true,if_true,mJ]
end Go.Proofs.YtmbkabgllafffaaGreat
set_option linter.unusedVariables false
set_option linter.unusedSimpArgs false
namespace Go.Proofs.YtmbkabgllafffaaGreat
open K Go Go.Proofs
theorem II:rY 1200=some true:=by decide+kernel
theorem W.get{α:Type}{x:Option α}{a:α}(h:W x λy=>y=a):x=some a:=by
 obtain⟨b,e,rfl⟩:=h;exact e
end Go.Proofs.YtmbkabgllafffaaGreat
set_option linter.unusedVariables false
set_option linter.unusedSimpArgs false
namespace Go.Proofs.YtmbkabgllafffaaGreat
open K Go Go.Proofs
theorem Fv{k:Nat}{m:ae}(v:Vd m)(hk:1010≤k):iU k m=some (jL m fa,0):=by
 rw [CE v.sm hk,v.chk];rfl
