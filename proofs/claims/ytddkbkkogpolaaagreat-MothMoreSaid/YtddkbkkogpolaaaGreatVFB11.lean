import Derived.Test.YtddkbkkogpolaaaGreatVFB10
open Nat
open List hiding mem_of_getElem?
open Array hiding mem_of_getElem? mk
set_option linter.unusedSimpArgs false
set_option linter.unusedVariables false
set_option maxRecDepth 4000
set_option maxHeartbeats 1000000
namespace Go.Proofs.YtddkbkkogpolaaaGreat
open K Go Go.Proofs Go.Conc
@[reducible] def K.VW.less(v:VW)(bm:Nat):VW:=⟨v.toWorld,λb=>v.A b/\b≠bm,v.Z⟩
@[reducible] def K.VW.more(v:VW)(bm:Nat):VW:=⟨v.toWorld,λb=>v.A b\/b=bm,v.Z⟩
theorem K.VW.less_more{v:VW}{bm:Nat}(h:¬v.A bm):(v.more bm).less bm=v:=by
 have:(λb=>(v.A b\/b=bm)/\b≠bm)=v.A:=by
  grind
 show(⟨v.toWorld,λb=>(v.A b\/b=bm)/\b≠bm,v.Z⟩:VW)=v;rw [this]
def HS(bm:Nat)(ob:Obj)(T:Tq):Tq:=λv fr cs=>∀v1,bg v v1->v1.A bm->v1.heap[bm]? =some ob->T (v1.less bm) fr cs
section
variable {P:Program}{bm:Nat}{ob:Obj}{T:Tq}
theorem wI(B:BC P T){v1 u:VW}{fr:Frame}{cs:List Frame}(hA:v1.A bm)(hob:v1.heap[bm]? =some ob)(hr:bg (v1.less bm) u):bg v1 (u.more bm)/\u.heap[bm]? =some ob/\¬u.A bm:=by
 have hlt:=(Array.getElem?_eq_some_iff.1 hob).1;have e1:u.heap[bm]? =some ob:=(hr.keep bm hlt λh=>h.2 rfl).trans hob;refine⟨⟨λb hb ha=>hr.keep b hb λh=>ha h.1,hr.size,λb hb=>?_,λb hb=>?_,λhd b hb=>?_,hr.Z,hr.os,hr.tape,hr.output⟩,e1,λh=>?_⟩
 .by_cases e:b=bm
  .omega
  .exact .inl (hr.sub b ⟨hb,e⟩)
 .rcases hb with hb |rfl
  .exact(hr.old b hb).imp (λh=>h.1) id
  simp_all
 .rcases hb with hb |rfl
  .exact hr.dom (λb h=>hd b h.1) b hb
  grind
 .exact(hr.old bm h).elim (λh=>h.2 rfl) λh=>absurd hlt (Nat.not_lt.2 h)
theorem KU(B:BC P T):BC P (HS bm ob T) where
 rely v v1 fr cs hr h:=λv2 hr2=>h v2 (hr.trans hr2)
 step v fr cs H:=λv1 hr hA hob=>B.step _ _ _ λu hu=>by
  obtain⟨g1,g2,g3⟩:=wI (fr:=fr) (cs:=cs) B hA hob hu
  obtain⟨fr',cs',w',es,k1,k2,k3⟩:=H (u.more bm) (hr.trans g1)
  have e1:w'.heap[bm]? =some ob:=(k2.keep bm ((Array.getElem?_eq_some_iff.1 g2).1) (.inl (.inr rfl))).trans g2
  refine⟨fr',cs',w',es,k1,⟨λb hb h=>k2.keep b hb (h.imp .inl id),k2.size,k2.os,k2.tape,k2.output,λe he=>?_⟩,?_⟩
  .
   have:=k2.evs e he
   unfold lH at this⊢
   split at this
   .
    simp_all
   .
    simp_all
   .
    exact this
   omega
  .
   have:=k3 ((u.more bm).upd w') (bg.refl _) (.inr rfl) e1
   grind [upd,K.VW.less_more]
theorem KT(B:BC P T):Ub P (λw=>w.heap[bm]? =some ob) (λe=>∃o,e=⟨.cell ⟨bm,o,none⟩,false,false⟩) (HS bm ob T):=λv fr cs H v1 hr hA hob=>B.step _ _ _ λu hu=>by
 obtain⟨g1,g2,g3⟩:=wI (fr:=fr) (cs:=cs) B hA hob hu
 obtain⟨fr',cs',w',es,k1,k2,k3⟩:=H (u.more bm) (hr.trans g1) g2
 have hlt:=(Array.getElem?_eq_some_iff.1 g2).1
 obtain⟨⟨q1,q2,q3,q4,q5,_⟩,q6⟩:=k2
 have e1:w'.heap[bm]? =some ob:=(q1 bm hlt (.inl (.inr rfl))).trans g2
 refine⟨fr',cs',w',es,k1,⟨λb hb h=>q1 b hb (h.imp .inl id),q2,q3,q4,q5,λe he=>?_⟩,?_⟩
 .
  rcases q6 e he with h |⟨o,rfl⟩
  .
   unfold lH at h⊢
   split at h
   .
    simp_all
   .
    simp_all
   .
    exact h
   .
    exact h
  .
   exact⟨rfl,Nat.lt_of_lt_of_le hlt q2,g3,λh=>by cases h⟩
 .
  have:=k3 ((u.more bm).upd w') (bg.refl _) (.inr rfl) e1
  grind [upd,K.VW.less_more]
def ML(M:Md P)(bm:Nat)(ob:Obj):Md P:=⟨λT'=>∃T,M.ok T/\T'=HS bm ob T,λw=>w.heap[bm]? =some ob,λe=>∃o,e=⟨.cell ⟨bm,o,none⟩,false,false⟩,λT' ⟨T,h,e⟩=>e▸KU (M.bc T h),λT' ⟨T,h,e⟩=>e▸KT (M.bc T h)⟩
end
section
variable {bm bk:Nat}{a0:ab}
theorem HQ{M:Md Tryz.prog}{f:Nat}{uz:List A}{RA:A}(h:∀(M:Md Tryz.prog) (c0 c1 c2 c3 c4 c5:Value),Kn M bm 0 [c0,c1,c2,c3,c4,c5]->bX M f (.rep (.mo (.pointer (some ⟨bm,0,none⟩)) [c0,c1,c2,c3,c4,c5] am) a0::uz) [] (λ_:Unit=>(RA,[]))):
 bX M f (.eq (.pointer (some ⟨bm,0,none⟩))::uz) [.obj bm 125 (aW a0 bk)] (λ_:Unit=>(RA,[.obj bm 125 (aW a0 bk)])):=by
 intro kd hkd S w vs hd hall hO T hT cs hc
 have fm:av [D.obj bm 125 (aW a0 bk)] bm:=⟨_,mem_cons_self,rfl⟩
 obtain⟨cells,hcl,hce⟩:=hO.holds _ mem_cons_self
 obtain⟨c0,c1,c2,c3,c4,c5,rfl,hrd⟩:=oe hce
 have hlt:=(Array.getElem?_eq_some_iff.1 hcl).1
 have hKn:Kn (ML M bm (.cells #[c0,c1,c2,c3,c4,c5,.int .i32 0,.int .u32 0,.map (some bk)] 125)) bm 0 [c0,c1,c2,c3,c4,c5]:=⟨λw hw=>⟨_,_,_,hw,rfl⟩,λj _=>⟨0+j,rfl⟩⟩
 have hfe:∀b,av [D.obj bm 125 (aW a0 bk)] b->b=bm:=λb ⟨d,hd',e⟩=>by
  rw [List.mem_singleton.1 hd'] at e;exact(Option.some.inj e).symm
 have key:=h _ c0 c1 c2 c3 c4 c5 hKn kd hkd S (w.more bm) vs hd (by
  obtain⟨x,vs',e,hx,hx2⟩:=hall;have hx:x= .pointer (some ⟨bm,0,none⟩):=hx;subst hx;exact⟨_,vs',e,uG hrd,hx2⟩) ⟨λd hd=>by simp at hd,λb hb=>(cj hb).elim,Pairwise.nil,λb hb=>(cj hb).elim,λb hb hA=>hA.elim (hO.sees b hb) λe=>(hO.own _ fm).1 (e▸hb),λb hb=>hb.elim (hO.domA b) λe=>e▸hlt,hO.domZ⟩ _ ⟨T,hT,rfl⟩ cs λe v' fr hpo hf1 hf2 hlv v2 hr2 hA2 hob2=>?_
 .
  have:=key (w.more bm) (bg.refl _) (.inr rfl) hcl;rwa [K.VW.less_more (hO.far _ fm).1] at this
 .
  obtain⟨x,S',u,rfl,hcs,hres,hOw,_⟩:=hpo;have hAm:v'.A bm:=hcs.subA bm (.inr rfl);have hsz:w.heap.size≤v2.heap.size:=Nat.le_trans hcs.size hr2.size
  have oldw:∀b,v'.A b->b≠bm->w.A b\/w.heap.size≤b:=λb hb h1=>by
   rcases hcs.oldA b hb with(hb |hb) |hb
   .simp_all
   .omega
   simp_all
  have hZ2:v2.Z=w.Z:=by rw [hr2.Z,hcs.Z]
  have keepv:∀b,b < w.heap.size->¬w.A b->b≠bm->v2.heap[b]? =w.heap[b]? :=λb hb ha h1=>by
   have e1:=hcs.keep b hb (λh=>h.elim ha h1) λh=>(cj h).elim;have e2:=hr2.keep b (Nat.lt_of_lt_of_le hb hcs.size) λh=>(oldw b h h1).elim ha λh=>absurd hb (Nat.not_lt.2 h);simp_all
  have hKs:ge S w v2:=λb hb=>keepv b (hd b hb) (hO.sees b hb) λe=>(hO.own _ fm).1 (e▸hb);refine hc (.returned u) (v2.less bm) fr ⟨(),S',u,rfl,⟨λb hb=>hcs.sub b hb,λb hb=>?_,λb hb=>Nat.lt_of_lt_of_le (hcs.dom b hb) hr2.size,hsz,λb hb ha hx=>keepv b hb ha λe=>hx (e▸fm),hr2.os.trans hcs.os,hr2.tape.trans hcs.tape,hr2.output.trans hcs.output,λb hb=>⟨hr2.sub b (hcs.subA b (.inl hb)),λe=>(hO.far _ fm).1 (e▸hb)⟩,λb hb=>?_,hZ2⟩,A.mono (λ_ h=>h) (fF hcs.dom hOw.sees hr2) _ hres,⟨λd hd'=>?_,λb hb=>?_,hO.apart,λb hb=>⟨λh=>?_,by rw [hZ2];exact(hO.far b hb).2⟩,λb hb h=>?_,λb h=>hr2.dom hOw.domA b h.1,λb h=>by rw [hZ2] at h;exact Nat.lt_of_lt_of_le (hO.domZ b h) hsz⟩,λb hb=>.inl hb⟩ hf1 hf2 ?_
  .rcases hcs.new b hb with h |h |h
   .grind
   .grind
   grind [cj]
  .rcases hr2.old b hb.1 with h |h
   .grind
   .exact .inr (Nat.le_trans hcs.size h)
  .rw [List.mem_singleton.1 hd'];exact⟨_,hob2,[c0,c1,c2,c3,c4,c5],_,rfl,dx (λb hb=>hcs.sub b hb) hKs am hrd,[_],_,rfl,⟨rfl,rfl⟩,[_],_,rfl,⟨rfl,rfl⟩,⟨rfl,rfl⟩⟩
  .obtain rfl:=hfe b hb;exact⟨λh=>hOw.sees _ h hAm,Nat.lt_of_lt_of_le hlt hsz⟩
  .grind
  .rcases hr2.old b h.1 with h' |h'
   .exact hOw.sees b hb h'
   .exact absurd (hcs.dom b hb) (Nat.not_lt.2 h')
  .obtain⟨l1,l2,fn,l3,l4⟩:=hlv;refine⟨l1,l2,fn,l3,λv3 hr3=>?_⟩;have hm2:bm < v2.heap.size:=(Array.getElem?_eq_some_iff.1 hob2).1
   have hrel:bg v' (v3.more bm):=by
    refine⟨λb hb ha=>?_,Nat.le_trans hr2.size hr3.size,λb hb=>?_,λb hb=>?_,λhdm b hb=>?_,hr3.Z.trans hr2.Z,hr3.os.trans hr2.os,hr3.tape.trans hr2.tape,hr3.output.trans hr2.output⟩
    .have e1:=hr2.keep b hb ha;have e2:=hr3.keep b (Nat.lt_of_lt_of_le hb hr2.size) λh=>(hr2.old b h.1).elim ha λh=>absurd hb (Nat.not_lt.2 h);grind
    .by_cases e:b=bm
     .omega
     .exact .inl (hr3.sub b ⟨hr2.sub b hb,e⟩)
    .rcases hb with hb |rfl
     .rcases hr3.old b hb with h |h
      .exact hr2.old b h.1
      .exact .inr (Nat.le_trans hr2.size h)
     grind
    .rcases hb with hb |rfl
     .exact hr3.dom (λb h=>hr2.dom hOw.domA b h.1) b hb
     .exact Nat.lt_of_lt_of_le hm2 hr3.size
   obtain⟨q1,q2⟩:=l4 _ hrel;refine⟨q1,⟨λ_ _ _=>rfl,Nat.le_refl _,.refl _,rfl,rfl,λev hev=>?_⟩⟩;have:=q2.evs ev hev;unfold lH at this⊢;split at this
   .grind
   .grind
   .exact this
   omega
end
end Go.Proofs.YtddkbkkogpolaaaGreat
set_option linter.unusedVariables false
set_option maxRecDepth 4000
set_option maxHeartbeats 1000000
namespace Go.Proofs.YtddkbkkogpolaaaGreat
open K Go Go.Proofs
theorem o8(k:Nat)(a0:ab)(b_a0 z_a0:Nat)(a1:Int)(r:List (List Int))(h:lM k a0 a1=some r):bX (dQ Tryz.prog) 40 [.eq (.pointer (some ⟨b_a0,0,none⟩)),.eq (.int .u8 a1)] (qy a0 b_a0 z_a0 k) (λ_:Unit=>(bJ [.rep (.arr 7 (.arr 5 (.int .i64))) r],qy a0 b_a0 z_a0 k)):=Aa h
theorem pX(k:Nat)(a0:ab)(b_a0 z_a0:Nat)(r:Unit)(h:eF k a0=some r):bX (dQ Tryz.prog) 72 [.eq (.pointer (some ⟨b_a0,0,none⟩))] (qy a0 b_a0 z_a0 k) (λ_:Unit=>(bJ [],qy a0 b_a0 z_a0 k)):=qQ k r h
theorem nH(k:Nat)(a0:ab)(b_a0 z_a0:Nat)(a1:List Int)(a2 a3:Int)(r:Int)(h:dy k a0 a1 a2 a3=some r):du Tryz.prog 113 [.eq (.pointer (some ⟨b_a0,0,none⟩)),.rep (.arr 5 (.int .i64)) a1,.eq (.int .i64 a2),.eq (.int .i64 a3)] [.obj b_a0 125 (aW a0 z_a0)] (λ_:Unit=>(bJ [.eq (.int .i64 r)],[.obj b_a0 125 (aW a0 z_a0)])):=λM=>
 HQ λM c0 c1 c2 c3 c4 c5 hK=>jJ hK k a0 a1 a2 a3 r h
theorem FP:∀w,(zeroValue 125).run Tryz.prog w= .ok (.agg #[(.int .i64 0),(.int .i64 0),(.int .i64 0),(.int .i64 0),(.slice none 0 0),(.slice none 0 0),(.int .i32 0),(.int .u32 0),(.map none)]) w:=by simp_all
theorem FQ:yF Tryz.prog 125 #[(0,6),(6,2),(8,1)]:=⟨_,Tryz.underlying125,λ_=>by kernel_rfl⟩
@[reducible] def Uo:A:=.pair (.agg (.pair (.eq (.int .i64 0)) (.pair (.eq (.int .i64 0)) (.pair (.eq (.int .i64 0)) (.pair (.eq (.int .i64 0)) (.pair (.eq (.slice none 0 0)) (.eq (.slice none 0 0)))))))) (.pair (.eq (.int .i32 0)) (.pair (.eq (.int .u32 0)) (.eq (.map none))))
theorem Ek:∀S w,(A.cells S w Uo (Value.cells (.agg #[(.int .i64 0),(.int .i64 0),(.int .i64 0),(.int .i64 0),(.slice none 0 0),(.slice none 0 0),(.int .i32 0),(.int .u32 0),(.map none)])).toList):=λ_ _=>⟨[_,_,_,_,_,_],_,rfl,⟨[_],_,rfl,⟨rfl,rfl⟩,[_],_,rfl,⟨rfl,rfl⟩,[_],_,rfl,⟨rfl,rfl⟩,[_],_,rfl,⟨rfl,rfl⟩,[_],_,rfl,⟨rfl,rfl⟩,rfl,rfl⟩,[_],_,rfl,⟨rfl,rfl⟩,[_],_,rfl,⟨rfl,rfl⟩,rfl,rfl⟩
def f6(k:Nat)(a0:ab):Option (Option ab):=some (some a0)
theorem LA{k:Nat}{a0:ab}:cf k a0 (.map #[] 0):=vk.nil
theorem kh(k:Nat)(a0:ab)(r:Option ab)(h:f6 k a0=some r):du Tryz.prog 56 [.rep am a0] [] (λz:Nat×Nat=>(bJ [J7 r z.1],J6 r λq=>qy q z.1 z.2 k)):=by
 obtain rfl:=Option.some.inj h;refine du.of 7 Tryz.func56 rfl Tryz.ntmps56 rfl λS w0=>?_;refine aj ?_;refine ae ?_;refine aQ rfl rfl rfl (wC rfl rfl) ⟨rfl,trivial⟩ λb1=>?_;refine D9 rfl ?_;refine aI ?_;refine au ?_;show JC _ _ _ _ _;refine aj ?_;refine ae ?_;refine mg rfl rfl rfl (an rfl cV (nK) rfl) ⟨rfl,trivial⟩ ?_;refine aQ rfl rfl rfl (wA rfl) trivial λz=>?_;refine bZ rfl (cR [(0,.tmp 3,_),(2,.tmp 4,_)] rfl FQ FP Ek (gA ⟨rfl,rfl,trivial⟩) rfl) ⟨rfl,rfl,trivial⟩ ?_;refine aQ rfl rfl rfl (wC rfl trivial) ⟨rfl,trivial⟩ λb2=>?_;refine vl rfl rfl ?_;refine aI ?_;refine au ?_;show JC _ _ _ _ _;refine aE ?_;refine bo (SE.fin (Γ':=[(2,_)]) [1,0] ⟨rfl,trivial⟩ rfl) ?_;refine bo (sO (cf k a0) LA) ?_;refine bo (SE.fin (Γ':=[(2,_)]) [1,0] ⟨rfl,trivial⟩ rfl) ?_;refine bo (dT (a:=_) (a':=aW a0 z) (λ_ _ _ h=>h)) ?_;exact aL (b2,z) [_] 2 ⟨rfl,trivial⟩ rfl
def kV(t:eN):Value:=.agg #[.int .i64 t.1,.int .i64 t.2]
def tc(l:List (eN×eN)):Obj->Prop:=nz Tryz.prog 131 kV kV l
theorem JG:tc [] (.map #[] 0):=nz.nil
def yY(t:eN):Prop:=(-1≤t.1/\t.1 < 1000000)/\ -1≤t.2/\t.2 < 1000000
instance (t:eN):Decidable (yY t):=by unfold yY;infer_instance
theorem qB(t:eN):kP (kV t)=true:=rfl
theorem qD:∀a b:eN,kV a=kV b->a=b:=by
 simp_all [kV]
theorem t6:∀(S:FS) (w:World) (n:eN),(A.rep Gi n).holds S w (kV n):=λS w n=>⟨[.int .i64 n.1,.int .i64 n.2],⟨[_],_,rfl,rfl,rfl⟩,rfl⟩
theorem mZ{S:FS}{w:World}{u:Value}{t:eN}(h:(A.rep Gi t).holds S w u):u=kV t:=by
 obtain⟨cs,⟨c1,c2,rfl,h1,h2⟩,rfl⟩:=h;have h1:c1=[.int .i64 t.1]:=h1;have h2:c2=[.int .i64 t.2]:=h2;subst h1 h2;rfl
theorem t5:∀w,(zeroValue 131).run Tryz.prog w= .ok (kV ((0:Int),(0:Int))) w:=λw=>by kernel_rfl
theorem NK:131 < Tryz.prog.types.size:=by simp_all
theorem K4:WideMaps.KeyLaw Tryz.prog 131:=deep_law_gate (by kernel_rfl) Gg NK (by kernel_rfl) (by kernel_rfl)
theorem mm:Maps.Keyed Tryz.prog 131:=Maps.Keyed.of_law K4
theorem qC{t:eN}(h:yY t):∃lt,keyOf Tryz.prog 131 (kV t)=some lt:=by
 obtain⟨a,b⟩:=t;obtain⟨⟨h1,h2⟩,h3,h4⟩:=h;obtain⟨d,hd⟩:∃d,Tryz.prog.types.size+1=d+2:=⟨Tryz.prog.types.size - 1,by simp_all⟩
 have hint:∀(n:Int), -1≤n->n < 1000000->Tryz.prog.keyLits (d+1) 3 [.int .i64 n]=some [.int .i64 n]:=λn h h'=>by
  simp_all [Program.keyLits,Tryz.underlying3,yQ,and_self,if_true]
 have hc:Tryz.prog.cellsOf 131=2:=by kernel_rfl
 have hc3:Tryz.prog.cellsOf 3=1:=by kernel_rfl
 have hk:Tryz.prog.keyType 131=true:=by kernel_rfl
 have hL:Tryz.prog.keyLits (Tryz.prog.types.size+1) 131 [.int .i64 a,.int .i64 b]=some [.int .i64 a,.int .i64 b]:=by
  rw [hd];unfold Program.keyLits;simp_all
 refine⟨.string (keyBytes [.int .i64 a,.int .i64 b]),?_⟩;unfold keyOf;rw [Tryz.underlying131];have hf:(kV (a,b)).formed Tryz.prog 131=true:=by simp [kV,Value.formed,Tryz.underlying131,hc]
 have hcs:(kV (a,b)).cells.toList=[.int .i64 a,.int .i64 b]:=rfl;simp_all
end Go.Proofs.YtddkbkkogpolaaaGreat
namespace Go.Proofs.YtddkbkkogpolaaaGreat
namespace K
open Go
section
variable {c:Cx}{Q:Exit->Act->VW->Prop}{Γ:Ga}{Δ:List D}{C:Code}
end
def RI(P:Program)(fn:Func)(R:Ending->VW->Prop):List Nat->Act->VW->Prop
 |[],a,v=>bT P fn R .ret a v
 |dl::l,a,v=>∃ds,a.defers=gQ dl::ds/\∀v1,bg v v1->∃w',(Instr.takeDeferred dl).run P v1= .ok [] w'/\eK v1 w' ((Instr.takeDeferred dl).events P v1 #[])/\RI P fn R l { a with defers:=ds } (v1.upd w')
def wX(P:Program)(fn:Func)(R:Ending->VW->Prop):Exit->Act->VW->Prop
 | .ret,a,v=>∃l,RI P fn R l a v
 | .normal,a,v=>∃l,RI P fn R l a v
 | .panic chain,a,v=>a.defers=[]/\R (.panicked chain) v
 |_,_,_=>False
theorem Jg{P:Program}{M:Md P}{f:Nat}{fn:Func}{C:Code}{la:List A}{Δ:List D}{X:Type}{R:X->A×List D}(N:Nat)(hf:P.funcs[f]? =some fn)(hb:fn.body=some C)(hN:fn.ntmps=N)(hn:ble la.length N=true)
 (h:∀S w0,JC ⟨P,N,S,w0,av Δ,none,[],M⟩ C (wX P fn (cZ S w0 Δ R)) (entry 0 la) Δ):bX M f la Δ R:=by
 subst hN
 intro kind hkind S w vs hd hall hO T hT cs hc
 have bc:=M.bc T hT
 rw [enter_at hf hb]
 refine h S w _ _ (St.entry hn hd hall hO) T hT _ [] cs rfl λe a' v' q=>?_
 have fin:∀(a':Act) (v':VW) todo,bT P fn (cZ S w Δ R) .ret a' v'->T v' { Frame.atR { (default:Frame) with fn:=f,kind:=kind } a' todo with mode:=.returning } cs:=λa' v' todo ⟨q1,x,q2,q3⟩=>hc _ _ _ q3 rfl rfl ⟨rfl,q1,fn,hf,q2⟩
 have finL:∀l (a':Act) (v':VW) todo,RI P fn (cZ S w Δ R) l a' v'->T v' { Frame.atR { (default:Frame) with fn:=f,kind:=kind } a' todo with mode:=.returning } cs:=by
  intro l
  induction l with
  |nil=>exact fin
  |cons dl l ih=>
   rintro a' v' todo ⟨ds,q1,q2⟩;refine bc.step _ _ _ λv1 hr=>?_;obtain⟨w',p1,p2,p3⟩:=q2 v1 hr;obtain⟨es,e1,e2⟩:=H7 (P:=P) (fr:={ Frame.atR { (default:Frame) with fn:=f,kind:=kind } a' todo with mode:=.returning }) (cs:=cs) (ds:=ds) rfl q1 p1;exact⟨_,_,w',es,e2,p2.sub e1,ih { a' with defers:=ds } _ todo p3⟩
 cases e with
 |normal=>obtain⟨l,q⟩:=q;exact bc.move (λ_ _=>uP rfl) (finL l _ _ _ q)
 |ret=>obtain⟨l,q⟩:=q;exact⟨λ_ todo=>finL l _ _ todo q,λh=>by cases h⟩
 |panic chain=>exact λtodo=>hc _ _ _ q.2 rfl rfl ⟨rfl,q.1,fn,hf⟩
 |exit id=>exact q.elim
 |goto l=>exact q.elim
 |outgrown=>exact q.elim
theorem RR{P:Program}{f:Nat}{fn:Func}{C:Code}{la:List A}{Δ:List D}{X:Type}{R:X->A×List D}(N:Nat)(hf:P.funcs[f]? =some fn)(hb:fn.body=some C)(hN:fn.ntmps=N)(hn:ble la.length N=true)
 (h:∀{M:Md P} (S:FS) (w0:VW),JC ⟨P,N,S,w0,av Δ,none,[],M⟩ C (wX P fn (cZ S w0 Δ R)) (entry 0 la) Δ):du P f la Δ R:=λ_=>Jg N hf hb hN hn h
end K
