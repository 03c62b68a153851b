import Derived.Test.YtcpbmhgakdeceaaGreatVRB10
open Nat
open List hiding mem_of_getElem?
open Array hiding mem_of_getElem? mk
set_option linter.unusedSimpArgs false
set_option linter.unusedVariables false
set_option maxRecDepth 4000
set_option maxHeartbeats 1000000
namespace Go.Proofs.YtcpbmhgakdeceaaGreat
open K Go Go.Proofs Go.Conc
@[reducible] def K.VW.less(v:VW)(bm:Nat):VW:=⟨v.toWorld,λb=>v.A b/\b≠bm,v.Z⟩
@[reducible] def K.VW.more(v:VW)(bm:Nat):VW:=⟨v.toWorld,λb=>v.A b\/b=bm,v.Z⟩
theorem K.VW.less_more{v:VW}{bm:Nat}(h:¬v.A bm):(v.more bm).less bm=v:=by
 have:(λb=>(v.A b\/b=bm)/\b≠bm)=v.A:=by
  grind
 show(⟨v.toWorld,λb=>(v.A b\/b=bm)/\b≠bm,v.Z⟩:VW)=v;rw [this]
def Kr(bm:Nat)(ob:Obj)(T:Tq):Tq:=λv fr cs=>∀v1,bz v v1->v1.A bm->v1.heap[bm]? =some ob->T (v1.less bm) fr cs
section
variable {P:Program}{bm:Nat}{ob:Obj}{T:Tq}
theorem yO(B:BC P T){v1 u:VW}{fr:Frame}{cs:List Frame}(hA:v1.A bm)(hob:v1.heap[bm]? =some ob)(hr:bz (v1.less bm) u):bz v1 (u.more bm)/\u.heap[bm]? =some ob/\¬u.A bm:=by
 have hlt:=(Array.getElem?_eq_some_iff.1 hob).1;have e1:u.heap[bm]? =some ob:=(hr.keep bm hlt λh=>h.2 rfl).trans hob;refine⟨⟨λb hb ha=>hr.keep b hb λh=>ha h.1,hr.size,λb hb=>?_,λb hb=>?_,λhd b hb=>?_,hr.Z,hr.os,hr.tape,hr.output⟩,e1,λh=>?_⟩
 .by_cases e:b=bm
  .omega
  .exact .inl (hr.sub b ⟨hb,e⟩)
 .rcases hb with hb |rfl
  .exact(hr.old b hb).imp (λh=>h.1) id
  simp_all
 .rcases hb with hb |rfl
  .exact hr.dom (λb h=>hd b h.1) b hb
  grind
 .exact(hr.old bm h).elim (λh=>h.2 rfl) λh=>absurd hlt (Nat.not_lt.2 h)
theorem Oc(B:BC P T):BC P (Kr bm ob T) where
 rely v v1 fr cs hr h:=λv2 hr2=>h v2 (hr.trans hr2)
 step v fr cs H:=λv1 hr hA hob=>B.step _ _ _ λu hu=>by
  obtain⟨g1,g2,g3⟩:=yO (fr:=fr) (cs:=cs) B hA hob hu
  obtain⟨fr',cs',w',es,k1,k2,k3⟩:=H (u.more bm) (hr.trans g1)
  have e1:w'.heap[bm]? =some ob:=(k2.keep bm ((Array.getElem?_eq_some_iff.1 g2).1) (.inl (.inr rfl))).trans g2
  refine⟨fr',cs',w',es,k1,⟨λb hb h=>k2.keep b hb (h.imp .inl id),k2.size,k2.os,k2.tape,k2.output,λe he=>?_⟩,?_⟩
  .
   have:=k2.evs e he
   unfold ni at this⊢
   split at this
   .
    simp_all
   .
    simp_all
   .
    exact this
   omega
  .
   have:=k3 ((u.more bm).upd w') (bz.refl _) (.inr rfl) e1
   grind [upd,K.VW.less_more]
theorem Ob(B:BC P T):XE P (λw=>w.heap[bm]? =some ob) (λe=>∃o,e=⟨.cell ⟨bm,o,none⟩,false,false⟩) (Kr bm ob T):=λv fr cs H v1 hr hA hob=>B.step _ _ _ λu hu=>by
 obtain⟨g1,g2,g3⟩:=yO (fr:=fr) (cs:=cs) B hA hob hu
 obtain⟨fr',cs',w',es,k1,k2,k3⟩:=H (u.more bm) (hr.trans g1) g2
 have hlt:=(Array.getElem?_eq_some_iff.1 g2).1
 obtain⟨⟨q1,q2,q3,q4,q5,_⟩,q6⟩:=k2
 have e1:w'.heap[bm]? =some ob:=(q1 bm hlt (.inl (.inr rfl))).trans g2
 refine⟨fr',cs',w',es,k1,⟨λb hb h=>q1 b hb (h.imp .inl id),q2,q3,q4,q5,λe he=>?_⟩,?_⟩
 .
  rcases q6 e he with h |⟨o,rfl⟩
  .
   unfold ni at h⊢
   split at h
   .
    simp_all
   .
    simp_all
   .
    exact h
   .
    exact h
  .
   exact⟨rfl,Nat.lt_of_lt_of_le hlt q2,g3,λh=>by cases h⟩
 .
  have:=k3 ((u.more bm).upd w') (bz.refl _) (.inr rfl) e1
  grind [upd,K.VW.less_more]
def ML(M:Md P)(bm:Nat)(ob:Obj):Md P:=⟨λT'=>∃T,M.ok T/\T'=Kr bm ob T,λw=>w.heap[bm]? =some ob,λe=>∃o,e=⟨.cell ⟨bm,o,none⟩,false,false⟩,λT' ⟨T,h,e⟩=>e▸Oc (M.bc T h),λT' ⟨T,h,e⟩=>e▸Ob (M.bc T h)⟩
end
section
variable {bm bk:Nat}{a0:ab}
theorem Kq{M:Md Tryz.prog}{f:Nat}{uz:List A}{RA:A}(h:∀(M:Md Tryz.prog) (c0 c1 c2 c3 c4 c5:Value),Kn M bm 0 [c0,c1,c2,c3,c4,c5]->bT M f (.rep (.mo (.pointer (some ⟨bm,0,none⟩)) [c0,c1,c2,c3,c4,c5] ah) a0::uz) [] (λ_:Unit=>(RA,[]))):
 bT M f (.eq (.pointer (some ⟨bm,0,none⟩))::uz) [.obj bm 122 (aW a0 bk)] (λ_:Unit=>(RA,[.obj bm 122 (aW a0 bk)])):=by
 intro kd hkd S w vs hd hall hO T hT cs hc
 have fm:ay [D.obj bm 122 (aW a0 bk)] bm:=⟨_,mem_cons_self,rfl⟩
 obtain⟨cells,hcl,hce⟩:=hO.holds _ mem_cons_self
 obtain⟨c0,c1,c2,c3,c4,c5,rfl,hrd⟩:=qp hce
 have hlt:=(Array.getElem?_eq_some_iff.1 hcl).1
 have hKn:Kn (ML M bm (.cells #[c0,c1,c2,c3,c4,c5,.int .i32 0,.int .u32 0,.map (some bk)] 122)) bm 0 [c0,c1,c2,c3,c4,c5]:=⟨λw hw=>⟨_,_,_,hw,rfl⟩,λj _=>⟨0+j,rfl⟩⟩
 have hfe:∀b,ay [D.obj bm 122 (aW a0 bk)] b->b=bm:=λb ⟨d,hd',e⟩=>by
  rw [List.mem_singleton.1 hd'] at e;exact(Option.some.inj e).symm
 have key:=h _ c0 c1 c2 c3 c4 c5 hKn kd hkd S (w.more bm) vs hd (by
  obtain⟨x,vs',e,hx,hx2⟩:=hall;have hx:x= .pointer (some ⟨bm,0,none⟩):=hx;subst hx;exact⟨_,vs',e,wO hrd,hx2⟩) ⟨λd hd=>by simp at hd,λb hb=>(cG hb).elim,Pairwise.nil,λb hb=>(cG hb).elim,λb hb hA=>hA.elim (hO.sees b hb) λe=>(hO.own _ fm).1 (e▸hb),λb hb=>hb.elim (hO.domA b) λe=>e▸hlt,hO.domZ⟩ _ ⟨T,hT,rfl⟩ cs λe v' fr hpo hf1 hf2 hlv v2 hr2 hA2 hob2=>?_
 .
  have:=key (w.more bm) (bz.refl _) (.inr rfl) hcl;rwa [K.VW.less_more (hO.far _ fm).1] at this
 .
  obtain⟨x,S',u,rfl,hcs,hres,hOw,_⟩:=hpo;have hAm:v'.A bm:=hcs.subA bm (.inr rfl);have hsz:w.heap.size≤v2.heap.size:=Nat.le_trans hcs.size hr2.size
  have oldw:∀b,v'.A b->b≠bm->w.A b\/w.heap.size≤b:=λb hb h1=>by
   rcases hcs.oldA b hb with(hb |hb) |hb
   .simp_all
   .omega
   simp_all
  have hZ2:v2.Z=w.Z:=by rw [hr2.Z,hcs.Z]
  have keepv:∀b,b < w.heap.size->¬w.A b->b≠bm->v2.heap[b]? =w.heap[b]? :=λb hb ha h1=>by
   have e1:=hcs.keep b hb (λh=>h.elim ha h1) λh=>(cG h).elim;have e2:=hr2.keep b (Nat.lt_of_lt_of_le hb hcs.size) λh=>(oldw b h h1).elim ha λh=>absurd hb (Nat.not_lt.2 h);simp_all
  have hKs:gf S w v2:=λb hb=>keepv b (hd b hb) (hO.sees b hb) λe=>(hO.own _ fm).1 (e▸hb);refine hc (.returned u) (v2.less bm) fr ⟨(),S',u,rfl,⟨λb hb=>hcs.sub b hb,λb hb=>?_,λb hb=>Nat.lt_of_lt_of_le (hcs.dom b hb) hr2.size,hsz,λb hb ha hx=>keepv b hb ha λe=>hx (e▸fm),hr2.os.trans hcs.os,hr2.tape.trans hcs.tape,hr2.output.trans hcs.output,λb hb=>⟨hr2.sub b (hcs.subA b (.inl hb)),λe=>(hO.far _ fm).1 (e▸hb)⟩,λb hb=>?_,hZ2⟩,A.mono (λ_ h=>h) (f8 hcs.dom hOw.sees hr2) _ hres,⟨λd hd'=>?_,λb hb=>?_,hO.apart,λb hb=>⟨λh=>?_,by rw [hZ2];exact(hO.far b hb).2⟩,λb hb h=>?_,λb h=>hr2.dom hOw.domA b h.1,λb h=>by rw [hZ2] at h;exact Nat.lt_of_lt_of_le (hO.domZ b h) hsz⟩,λb hb=>.inl hb⟩ hf1 hf2 ?_
  .rcases hcs.new b hb with h |h |h
   .grind
   .grind
   grind [cG]
  .rcases hr2.old b hb.1 with h |h
   .grind
   .exact .inr (Nat.le_trans hcs.size h)
  .rw [List.mem_singleton.1 hd'];exact⟨_,hob2,[c0,c1,c2,c3,c4,c5],_,rfl,dp (λb hb=>hcs.sub b hb) hKs ah hrd,[_],_,rfl,⟨rfl,rfl⟩,[_],_,rfl,⟨rfl,rfl⟩,⟨rfl,rfl⟩⟩
  .obtain rfl:=hfe b hb;exact⟨λh=>hOw.sees _ h hAm,Nat.lt_of_lt_of_le hlt hsz⟩
  .grind
  .rcases hr2.old b h.1 with h' |h'
   .exact hOw.sees b hb h'
   .exact absurd (hcs.dom b hb) (Nat.not_lt.2 h')
  .obtain⟨l1,l2,fn,l3,l4⟩:=hlv;refine⟨l1,l2,fn,l3,λv3 hr3=>?_⟩;have hm2:bm < v2.heap.size:=(Array.getElem?_eq_some_iff.1 hob2).1
   have hrel:bz v' (v3.more bm):=by
    refine⟨λb hb ha=>?_,Nat.le_trans hr2.size hr3.size,λb hb=>?_,λb hb=>?_,λhdm b hb=>?_,hr3.Z.trans hr2.Z,hr3.os.trans hr2.os,hr3.tape.trans hr2.tape,hr3.output.trans hr2.output⟩
    .have e1:=hr2.keep b hb ha;have e2:=hr3.keep b (Nat.lt_of_lt_of_le hb hr2.size) λh=>(hr2.old b h.1).elim ha λh=>absurd hb (Nat.not_lt.2 h);grind
    .by_cases e:b=bm
     .omega
     .exact .inl (hr3.sub b ⟨hr2.sub b hb,e⟩)
    .rcases hb with hb |rfl
     .rcases hr3.old b hb with h |h
      .exact hr2.old b h.1
      .exact .inr (Nat.le_trans hr2.size h)
     grind
    .rcases hb with hb |rfl
     .exact hr3.dom (λb h=>hr2.dom hOw.domA b h.1) b hb
     .exact Nat.lt_of_lt_of_le hm2 hr3.size
   obtain⟨q1,q2⟩:=l4 _ hrel;refine⟨q1,⟨λ_ _ _=>rfl,Nat.le_refl _,.refl _,rfl,rfl,λev hev=>?_⟩⟩;have:=q2.evs ev hev;unfold ni at this⊢;split at this
   .grind
   .grind
   .exact this
   omega
end
end Go.Proofs.YtcpbmhgakdeceaaGreat
set_option linter.unusedVariables false
set_option maxRecDepth 4000
set_option maxHeartbeats 1000000
namespace Go.Proofs.YtcpbmhgakdeceaaGreat
open K Go Go.Proofs
theorem ri(k:Nat)(a0:ab)(b_a0 z_a0:Nat)(a1:Int)(r:List (List Int))(h:nu k a0 a1=some r):bT (d4 Tryz.prog) 40 [.eq (.pointer (some ⟨b_a0,0,none⟩)),.eq (.int .u8 a1)] (sW a0 b_a0 z_a0 k) (λ_:Unit=>(bn [.rep (.arr 7 (.arr 5 (.int .i64))) r],sW a0 b_a0 z_a0 k)):=C0 h
theorem sj(k:Nat)(a0:ab)(b_a0 z_a0:Nat)(r:Unit)(h:eW k a0=some r):bT (d4 Tryz.prog) 63 [.eq (.pointer (some ⟨b_a0,0,none⟩))] (sW a0 b_a0 z_a0 k) (λ_:Unit=>(bn [],sW a0 b_a0 z_a0 k)):=tq k r h
theorem pG(k:Nat)(a0:ab)(b_a0 z_a0:Nat)(a1:List Int)(a2 a3:Int)(r:Int)(h:dO k a0 a1 a2 a3=some r):cT Tryz.prog 80 [.eq (.pointer (some ⟨b_a0,0,none⟩)),.rep (.arr 5 (.int .i64)) a1,.eq (.int .i64 a2),.eq (.int .i64 a3)] [.obj b_a0 122 (aW a0 z_a0)] (λ_:Unit=>(bn [.eq (.int .i64 r)],[.obj b_a0 122 (aW a0 z_a0)])):=λM=>
 Kq λM c0 c1 c2 c3 c4 c5 hK=>kX hK k a0 a1 a2 a3 r h
theorem Ir:∀w,(zeroValue 122).run Tryz.prog w= .ok (.agg #[(.int .i64 0),(.int .i64 0),(.int .i64 0),(.int .i64 0),(.slice none 0 0),(.slice none 0 0),(.int .i32 0),(.int .u32 0),(.map none)]) w:=by simp_all
theorem Is:AT Tryz.prog 122 #[(0,6),(6,2),(8,1)]:=⟨_,Tryz.underlying122,λ_=>by kernel_rfl⟩
@[reducible] def XW:A:=.pair (.agg (.pair (.eq (.int .i64 0)) (.pair (.eq (.int .i64 0)) (.pair (.eq (.int .i64 0)) (.pair (.eq (.int .i64 0)) (.pair (.eq (.slice none 0 0)) (.eq (.slice none 0 0)))))))) (.pair (.eq (.int .i32 0)) (.pair (.eq (.int .u32 0)) (.eq (.map none))))
theorem GX:∀S w,(A.cells S w XW (Value.cells (.agg #[(.int .i64 0),(.int .i64 0),(.int .i64 0),(.int .i64 0),(.slice none 0 0),(.slice none 0 0),(.int .i32 0),(.int .u32 0),(.map none)])).toList):=λ_ _=>⟨[_,_,_,_,_,_],_,rfl,⟨[_],_,rfl,⟨rfl,rfl⟩,[_],_,rfl,⟨rfl,rfl⟩,[_],_,rfl,⟨rfl,rfl⟩,[_],_,rfl,⟨rfl,rfl⟩,[_],_,rfl,⟨rfl,rfl⟩,rfl,rfl⟩,[_],_,rfl,⟨rfl,rfl⟩,[_],_,rfl,⟨rfl,rfl⟩,rfl,rfl⟩
def gK(k:Nat)(a0:ab):Option (Option ab):=some (some a0)
theorem OS{k:Nat}{a0:ab}:bR k a0 (.map #[] 0):=xt.nil
theorem lE(k:Nat)(a0:ab)(r:Option ab)(h:gK k a0=some r):cT Tryz.prog 37 [.rep ah a0] [] (λz:Nat×Nat=>(bn [ND r z.1],NC r λq=>sW q z.1 z.2 k)):=by
 obtain rfl:=Option.some.inj h;refine cT.of 7 Tryz.func37 rfl Tryz.ntmps37 rfl λS w0=>?_;refine bC ?_;refine ae ?_;refine aQ rfl rfl rfl (yK rfl rfl) ⟨rfl,trivial⟩ λb1=>?_;refine GH rfl ?_;refine bp ?_;refine aH ?_;show JC _ _ _ _ _;refine bC ?_;refine ae ?_;refine nT rfl rfl rfl (ak rfl bB (kB) rfl) ⟨rfl,trivial⟩ ?_;refine aQ rfl rfl rfl (yH rfl) trivial λz=>?_;refine bU rfl (cN [(0,.tmp 3,_),(2,.tmp 4,_)] rfl Is Ir GX (fX ⟨rfl,rfl,trivial⟩) rfl) ⟨rfl,rfl,trivial⟩ ?_;refine aQ rfl rfl rfl (yK rfl trivial) ⟨rfl,trivial⟩ λb2=>?_;refine xz rfl rfl ?_;refine bp ?_;refine aH ?_;show JC _ _ _ _ _;refine cC ?_;refine bf (SE.fin (Γ':=[(2,_)]) [1,0] ⟨rfl,trivial⟩ rfl) ?_;refine bf (uP (bR k a0) OS) ?_;refine bf (SE.fin (Γ':=[(2,_)]) [1,0] ⟨rfl,trivial⟩ rfl) ?_;refine bf (c6 (a:=_) (a':=aW a0 z) (λ_ _ _ h=>h)) ?_;exact aN (b2,z) [_] 2 ⟨rfl,trivial⟩ rfl
def mr(t:fg):Value:=.agg #[.int .i64 t.1,.int .i64 t.2]
def vl(l:List (fg×fg)):Obj->Prop:=pn Tryz.prog 94 mr mr l
theorem M5:vl [] (.map #[] 0):=pn.nil
def Bj(t:fg):Prop:=(-1≤t.1/\t.1 < 1000000)/\ -1≤t.2/\t.2 < 1000000
instance (t:fg):Decidable (Bj t):=by unfold Bj;infer_instance
theorem s4(t:fg):ma (mr t)=true:=rfl
theorem s6:∀a b:fg,mr a=mr b->a=b:=by
 simp_all [mr]
theorem we:∀(S:FS) (w:World) (n:fg),(A.rep IM n).holds S w (mr n):=λS w n=>⟨[.int .i64 n.1,.int .i64 n.2],⟨[_],_,rfl,rfl,rfl⟩,rfl⟩
theorem oP{S:FS}{w:World}{u:Value}{t:fg}(h:(A.rep IM t).holds S w u):u=mr t:=by
 obtain⟨cs,⟨c1,c2,rfl,h1,h2⟩,rfl⟩:=h;have h1:c1=[.int .i64 t.1]:=h1;have h2:c2=[.int .i64 t.2]:=h2;subst h1 h2;rfl
theorem wb:∀w,(zeroValue 94).run Tryz.prog w= .ok (mr ((0:Int),(0:Int))) w:=λw=>by kernel_rfl
theorem QM:94 < Tryz.prog.types.size:=by simp_all
theorem Oq:WideMaps.KeyLaw Tryz.prog 94:=deep_law_gate (by kernel_rfl) IK QM (by kernel_rfl) (by kernel_rfl)
theorem nY:Maps.Keyed Tryz.prog 94:=Maps.Keyed.of_law Oq
theorem s5{t:fg}(h:Bj t):∃lt,keyOf Tryz.prog 94 (mr t)=some lt:=by
 obtain⟨a,b⟩:=t;obtain⟨⟨h1,h2⟩,h3,h4⟩:=h;obtain⟨d,hd⟩:∃d,Tryz.prog.types.size+1=d+2:=⟨Tryz.prog.types.size - 1,by simp_all⟩
 have hint:∀(n:Int), -1≤n->n < 1000000->Tryz.prog.keyLits (d+1) 3 [.int .i64 n]=some [.int .i64 n]:=λn h h'=>by
  simp_all [Program.keyLits,Tryz.underlying3,A9,and_self,if_true]
 have hc:Tryz.prog.cellsOf 94=2:=by kernel_rfl
 have hc3:Tryz.prog.cellsOf 3=1:=by kernel_rfl
 have hk:Tryz.prog.keyType 94=true:=by kernel_rfl
 have hL:Tryz.prog.keyLits (Tryz.prog.types.size+1) 94 [.int .i64 a,.int .i64 b]=some [.int .i64 a,.int .i64 b]:=by
  rw [hd];unfold Program.keyLits;simp_all
 refine⟨.string (keyBytes [.int .i64 a,.int .i64 b]),?_⟩;unfold keyOf;rw [Tryz.underlying94];have hf:(mr (a,b)).formed Tryz.prog 94=true:=by simp [mr,Value.formed,Tryz.underlying94,hc]
 have hcs:(mr (a,b)).cells.toList=[.int .i64 a,.int .i64 b]:=rfl;simp_all
end Go.Proofs.YtcpbmhgakdeceaaGreat
namespace Go.Proofs.YtcpbmhgakdeceaaGreat
namespace K
open Go
def Ur:List Nat->List Deferred->List Deferred
 |[],d=>d
 |x::l,d=>io x::Ur l d
def Bt:List Nat->List D
 |[]=>[]
 |x::l=>.raw x (.deferred (some []))::Bt l
def Cx.ms(c:Cx)(l:List Nat):Cx:={ c with dfs:=Ur l c.dfs }
section
variable {c:Cx}{Q:Exit->Act->VW->Prop}{Γ:Ga}{Δ:List D}{C:Code}
theorem LO{α β ρ Z:Type}{K:β->Option ρ}{q:ρ}(G:Z->α->Ga)(E:Z->α->List D)(L:Nat->α->Option β)(n:Nat)(z:Z)(x:α)(h0:∀x,L 0 x=none)(h:(L n x).bind K=some q)(hs:SE c Γ Δ (G z x) (E z x))
 (round:∀n l z x,(L (n+1) x).bind K=some q->JC (c.ms l) C (cD (λa w=>∃z':List Nat×Z×α,(L n z'.2.2).bind K=some q/\St (c.ms z'.1) (G z'.2.1 z'.2.2) (E z'.2.1 z'.2.2++Bt z'.1) a w) Q) (G z x) (E z x++Bt l)):JC c (.loop C) Q Γ Δ:=λa w st=>
 sX (λn a w=>∃z':List Nat×Z×α,(L n z'.2.2).bind K=some q/\St (c.ms z'.1) (G z'.2.1 z'.2.2) (E z'.2.1 z'.2.2++Bt z'.1) a w) (λn a w ⟨z,hp,hs⟩=>by
  cases n with
  |zero=>simp_all
  |succ n=>
   refine lK (λe a w q=>?_) (round n z.1 z.2.1 z.2.2 hp a w hs)
   cases e with
   |normal=>obtain⟨z',hp,hs⟩:=q;exact⟨n,lt_succ_self n,z',hp,hs⟩
   |_=>exact q) n a w ⟨([],z,x),h,by
   have:=hs a w st
   show St c (G z x) (E z x++[]) a w
   simp_all⟩
theorem VK{c':Cx}{Z:Type}{G:List Nat×Z->Ga}{E:List Nat×Z->List D}{p:List Nat×Z->Prop}(l:List Nat)(z:Z)(hp:p (l,z))(h:SE c' Γ Δ (G (l,z)) (E (l,z)++Bt l))(hc:c'=c.ms l):
 JN c' (λa w=>∃z,p z/\St (c.ms z.1) (G z) (E z++Bt z.1) a w) Γ Δ:=by
 subst hc
 exact λa w s=>⟨(l,z),hp,h a w s⟩
theorem Td{c':Cx}{Z:Type}{G:List Nat×Z->Ga}{E:List Nat×Z->List D}{p:List Nat×Z->Prop}(dl:Nat)(l:List Nat)(z:Z)(hp:p (dl::l,z))(h:SE c' Γ Δ (G (dl::l,z)) ((E (dl::l,z)++[.raw dl (.deferred (some []))])++Bt l))(hc:c'=c.ms (dl::l)):
 JN c' (λa w=>∃z,p z/\St (c.ms z.1) (G z) (E z++Bt z.1) a w) Γ Δ:=by
 subst hc
 refine VK (c:=c) (dl::l) z hp (λa w s=>?_) rfl
 have:=h a w s
 rw [List.append_assoc] at this
 exact this
end
def Vz(P:Program)(fn:Func)(R:Ending->VW->Prop):List Nat->Act->VW->Prop
 |[],a,v=>bK P fn R .ret a v
 |dl::l,a,v=>∃ds,a.defers=io dl::ds/\∀v1,bz v v1->∃w',(Instr.takeDeferred dl).run P v1= .ok [] w'/\eY v1 w' ((Instr.takeDeferred dl).events P v1 #[])/\Vz P fn R l { a with defers:=ds } (v1.upd w')
def rp(P:Program)(fn:Func)(R:Ending->VW->Prop):Exit->Act->VW->Prop
 | .ret,a,v=>∃l,Vz P fn R l a v
 | .normal,a,v=>∃l,Vz P fn R l a v
 | .panic chain,a,v=>a.defers=[]/\R (.panicked chain) v
 |_,_,_=>False
theorem Dp{c:Cx}{P:Program}{fn:Func}{R:Ending->VW->Prop}{Γ:Ga}{Δ:List D}(h:JN c (bK P fn R .ret) Γ Δ):JN c (rp P fn R .ret) Γ Δ:=λa w st=>⟨[],h a w st⟩
theorem Fj{P:Program}{M:Md P}{N:Nat}{S:FS}{w0:VW}{X:Nat->Prop}{fn:Func}{R:Ending->VW->Prop}{Γ:Ga}{Δ:List D}(h:JN ⟨P,N,S,w0,X,none,[],M⟩ (bK P fn R .ret) Γ Δ):
 ∀(l:List Nat) a w,St ⟨P,N,S,w0,X,none,Ur l [],M⟩ Γ (Bt l++Δ) a w->Vz P fn R l a w
 |[],a,w,st=>h a w st
 |dl::l,a,w,st=>by
  refine⟨Ur l [],st.1,λv1 hr=>?_⟩
  have st1:=st.rely hr
  obtain⟨_,_,S1,_,_,p5,_⟩:=st1
  obtain⟨r1,r2⟩:=td (P:=P) (x:=([]:List Deferred)) (ob:=.deferred none) p5 rfl py λw hw=>run_takeDeferred hw
  refine⟨_,r1,r2,?_⟩
  have st2:=(st.rely hr).putRaw (.deferred none)
  obtain⟨h1,h2,S',h3,h4,h5,h6⟩:=st2
  exact Fj h l _ _ ⟨rfl,h2,S',h3,λb ⟨d,hd,e⟩=>h4 b ⟨d,mem_cons_of_mem _ hd,e⟩,h5.tail,h6⟩
theorem PN{P:Program}{M:Md P}{N:Nat}{S:FS}{w0:VW}{X:Nat->Prop}{fn:Func}{R:Ending->VW->Prop}{Γ:Ga}{Δ:List D}(l:List Nat)(h:JN ⟨P,N,S,w0,X,none,[],M⟩ (bK P fn R .ret) Γ Δ):
 JN ⟨P,N,S,w0,X,none,Ur l [],M⟩ (rp P fn R .ret) Γ (Δ++Bt l):=by
 intro a w st
 refine⟨l,Fj h l a w ?_⟩
 obtain⟨h1,h2,S',h3,h4,h5,h6⟩:=st
 have hp:(Δ++Bt l).Perm (Bt l++Δ):=perm_append_comm
 exact⟨h1,h2,S',h3,λb hb=>h4 b (by grind [kH]),h5.perm hp,h6⟩
theorem Du{P:Program}{M:Md P}{f:Nat}{fn:Func}{C:Code}{la:List A}{Δ:List D}{X:Type}{R:X->A×List D}(N:Nat)(hf:P.funcs[f]? =some fn)(hb:fn.body=some C)(hN:fn.ntmps=N)(hn:ble la.length N=true)
 (h:∀S w0,JC ⟨P,N,S,w0,ay Δ,none,[],M⟩ C (rp P fn (dn S w0 Δ R)) (entry 0 la) Δ):bT M f la Δ R:=by
 subst hN
 intro kind hkind S w vs hd hall hO T hT cs hc
 have bc:=M.bc T hT
 rw [enter_at hf hb]
 refine h S w _ _ (St.entry hn hd hall hO) T hT _ [] cs rfl λe a' v' q=>?_
 have fin:∀(a':Act) (v':VW) todo,bK P fn (dn S w Δ R) .ret a' v'->T v' { Frame.atR { (default:Frame) with fn:=f,kind:=kind } a' todo with mode:=.returning } cs:=λa' v' todo ⟨q1,x,q2,q3⟩=>hc _ _ _ q3 rfl rfl ⟨rfl,q1,fn,hf,q2⟩
 have finL:∀l (a':Act) (v':VW) todo,Vz P fn (dn S w Δ R) l a' v'->T v' { Frame.atR { (default:Frame) with fn:=f,kind:=kind } a' todo with mode:=.returning } cs:=by
  intro l
  induction l with
  |nil=>exact fin
  |cons dl l ih=>
   rintro a' v' todo ⟨ds,q1,q2⟩;refine bc.step _ _ _ λv1 hr=>?_;obtain⟨w',p1,p2,p3⟩:=q2 v1 hr;obtain⟨es,e1,e2⟩:=KF (P:=P) (fr:={ Frame.atR { (default:Frame) with fn:=f,kind:=kind } a' todo with mode:=.returning }) (cs:=cs) (ds:=ds) rfl q1 p1;exact⟨_,_,w',es,e2,p2.sub e1,ih { a' with defers:=ds } _ todo p3⟩
 cases e with
 |normal=>obtain⟨l,q⟩:=q;exact bc.move (λ_ _=>wY rfl) (finL l _ _ _ q)
 |ret=>obtain⟨l,q⟩:=q;exact⟨λ_ todo=>finL l _ _ todo q,λh=>by cases h⟩
 |panic chain=>exact λtodo=>hc _ _ _ q.2 rfl rfl ⟨rfl,q.1,fn,hf⟩
 |exit id=>exact q.elim
 |goto l=>exact q.elim
 |outgrown=>exact q.elim
theorem V2{P:Program}{f:Nat}{fn:Func}{C:Code}{la:List A}{Δ:List D}{X:Type}{R:X->A×List D}(N:Nat)(hf:P.funcs[f]? =some fn)(hb:fn.body=some C)(hN:fn.ntmps=N)(hn:ble la.length N=true)
 (h:∀{M:Md P} (S:FS) (w0:VW),JC ⟨P,N,S,w0,ay Δ,none,[],M⟩ C (rp P fn (dn S w0 Δ R)) (entry 0 la) Δ):cT P f la Δ R:=λ_=>Du N hf hb hN hn h
end K
