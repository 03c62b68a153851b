import Derived.Test.YtopgphikdglphaaGreatF1
import Derived.Test.YtopgphikdglphaaGreatB6
import Derived.Test.YtopgphikdglphaaGreatB5
set_option linter.unusedVariables false
set_option maxRecDepth 4000
namespace Go.Proofs.YtopgphikdglphaaGreat
open K Go Go.Proofs Go.Conc
theorem Kq:an Tryz.prog 33:=an.of Tryz.func33 (by kernel_rfl) (by kernel_rfl)
theorem Kr:an Tryz.prog 32:=an.of Tryz.func32 (by kernel_rfl) (by kernel_rfl)
theorem vG:fX Tryz.prog 74 1 false:=⟨fun w=>by kernel_rfl,fun w=>by kernel_rfl⟩
def eP(r:Int×Bool)(now:Int):Bool:=r.2 && decide (r.1≤now)
theorem jp{c:Cx}{C:Code}{Q:Exit→Act→VW→Prop}{Γ:Ga}{Δ:List D}{a:Act}{v:VW}{T:Tq}{b:Frame}{k:List Item}{cs:List Frame}(hT:c.M.ok T)(hb:b.roundOf=c.rd)(st:St c Γ Δ a v)(h:JC c C Q Γ Δ)(hc:∀e a' v',Q e a' v'→nT T b k cs e a' v'):
 T v (b.atR a (.code C::k)) cs:=h a v st T hT b k cs hb hc
@[reducible] noncomputable def yc (c:Cx) (Γ:Ga) (Δ:List D):Exit→Act→VW→Prop:=cT (fun a w=>St c Γ Δ a w) (fun _ _ _=>False)
theorem pJ{c:Cx}{ops:Array Oper}{o:Oper}{i:Nat}{rest:List Nat}{Γ Γ':Ga}{Δ Δ':List D}{a:Act}{v:VW}{T:Tq}{b:Frame}{k:List Item}{cs:List Frame}(hT:c.M.ok T)(hb:b.roundOf=c.rd)(st:St c Γ Δ a v)(ho:ops[i]? =some o)(hg:o.guard=none)
 (h:JO c ops [o] (yc c Γ' Δ') Γ Δ) (hK:∀a' v',St c Γ' Δ' a' v'→T v' (b.atR a' (.inRegion ops rest::k)) cs):T v (b.atR a (.inRegion ops (i::rest)::k)) cs:=by
 have h1:=h a v st
 simp only [EU] at h1
 rw [if_pos (az hg _)] at h1
 exact Hi ho (az hg _) h1 hT hb (fun a' v' q=>hK a' v' q) fun ch a' v' q=>q.elim
theorem jR{c:Cx}{Γ:Ga}{Δ:List D}{a:Act}{v:VW}{s:Nat}{x:Value}(st:St c Γ Δ a v)(h:lk Γ s=some (.eq x)):a.eval (.tmp s)=x:=by
 obtain⟨_,_,S,_,_,_,h6⟩:=st;exact h6 s _ h
section
variable {k:Nat}{q:fp}{d now:Int}{r:Int×Bool}{cf cb:Nat}
@[reducible] noncomputable def Kt (Sh:FS) (v:VW):Cx:=⟨Tryz.prog,23,Sh,v,aS [],none,[],Md.plain Tryz.prog⟩
@[reducible] noncomputable def Qk (q:fp) (d now:Int) (cf cb:Nat):List A:=[.at (.ptr di) q,.at (.int .i64) d,.at (.int .i64) now,.at .val (.chan (some cf)),.at .val (.chan (some cb))]
@[reducible] noncomputable def O1 (d now:Int) (cf cb:Nat) (r:Int×Bool):Ga:=[(1,.at (.int .i64) d),(2,.at (.int .i64) now),(3,.at .val (.chan (some cf))),(4,.at .val (.chan (some cb))),(5,.eq (.int .i64 r.1)),(6,.eq (.bool r.2))]
@[reducible] noncomputable def HS (d:Int) (cf cb:Nat) (b:Bool):Ga:=[(1,.at (.int .i64) d),(3,.at .val (.chan (some cf))),(4,.at .val (.chan (some cb))),(18,.eq (.bool b))]
theorem FA(hw:bW k q d=some r){p0 p1 p2 p3 p4:Value}{Sh:FS}{v:VW}(hd:∀b,Sh b→b < v.heap.size)(hO:bo [] Sh v)(hall:lG Sh v (Qk q d now cf cb) [p0,p1,p2,p3,p4]):
 Wk Tryz.prog (Jt Tryz.prog (cond (eP r now) cf cb) (.int .i64 d)) v (ia Tryz.prog { target:=.fn (.func 32) #[p0,p1,p2,p3,p4],args:= #[] }) []:=by
 obtain⟨rn,rs⟩:=r
 have bc:BC Tryz.prog (Wk Tryz.prog (Jt Tryz.prog (cond (eP (rn,rs) now) cf cb) (.int .i64 d))):=Wk.bc
 refine bc.move (fun m w=>zM Kr) ?_
 rw [tK Tryz.func32 rfl]
 have st0:St (Kt Sh v) (entry 0 (Qk q d now cf cb)) [] { tmps:= #[p0,p1,p2,p3,p4]++Array.replicate (23 - 5) undef,defers:=[] } v:=St.entry (vs:=[p0,p1,p2,p3,p4]) rfl hd hall hO
 refine bc.move (fun _ _=>jT) ?_
 refine jp (c:=Kt Sh v) (Q:=yc (Kt Sh v) (O1 d now cf cb (rn,rs)) []) bc rfl st0 ?_ (fun e a1 v1 q1=>?_)
 ·
  refine ah ?_;refine dx rfl (ao (t:=.ptr di) rfl ie rfl) ⟨rfl,trivial⟩ ?_;refine dx rfl (ao (t:=.int .i64) rfl cj rfl) ⟨rfl,trivial⟩ ?_;refine dx rfl (ak [.tmp 8,.tmp 9] rfl rfl Kq rfl (qF k q d _ hw)) ⟨rfl,rfl,trivial⟩ ?_;refine qN rfl rfl ?_;refine dx rfl (fa rfl rfl) ⟨rfl,trivial⟩ ?_;refine dx rfl (fa rfl rfl) ⟨rfl,trivial⟩ ?_;refine BX rfl rfl ?_;refine BX rfl rfl ?_;refine aT ?_;refine a7 ?_;exact SE.fin [] (by repeat (first |exact trivial |refine⟨rfl,?_⟩)) rfl
 ·
  have send:∀(s1 s2:Nat) (a3:Act) (v3:VW) (ops:Array Oper) (o:Oper) (c:Nat),c=cond (eP (rn,rs) now) cf cb→ops[2]? =some o→o.guard=none→o.dst=none→o.op= .send (.tmp s1) (.tmp s2)→a3.defers=[]→a3.eval (.tmp s1)= .chan (some c)→a3.eval (.tmp s2)= .int .i64 d→
   Wk Tryz.prog (Jt Tryz.prog (cond (eP (rn,rs) now) cf cb) (.int .i64 d)) v3 (Frame.atR { (default:Frame) with fn:=32,kind:=.deferred } a3 [.inRegion ops [2]]) [{ ia Tryz.prog { target:=.fn (.func 32) #[p0,p1,p2,p3,p4],args:= #[] } with defers:=[] }]:=by
   intro s1 s2 a3 v3 ops o c hc ho hg hdst hop hdf e1 e2
   subst hc
   refine .stop fun v4 _=>⟨Gr (Frame.atR { (default:Frame) with fn:=32,kind:=.deferred } a3 [.inRegion ops [2]]) [{ ia Tryz.prog { target:=.fn (.func 32) #[p0,p1,p2,p3,p4],args:= #[] } with defers:=[] }],.tuple #[], #[],4,?_,fun e he=>by simp at he,?_⟩
   ·
    rw [M4 (i:=2) (rest:=[]) (k:=[]) ho (az hg _) hop e1,e2]
   ·
    rw [AB];refine AK rfl rfl Tryz.func32 rfl ?_;rw [ho];simp [hdst,Act.put,hdf]
  cases e with
  |normal=>
   refine bc.move (fun _ _=>jT) ?_;refine jp (c:=Kt Sh v) (Q:=yc (Kt Sh v) (HS d cf cb (eP (rn,rs) now)) []) bc rfl q1 ?_ (fun e a2 v2 q2=>?_)
   ·refine ah ?_;cases rs with
    |true=>
     refine qN rfl rfl ?_;refine qN rfl rfl ?_;refine mz rfl rfl rfl rfl rfl rfl (bg rfl) ⟨rfl,trivial⟩ ?_;refine mz rfl rfl rfl rfl rfl rfl (ao (t:=.int .i64) rfl cj rfl) ⟨rfl,trivial⟩ ?_;refine mz rfl rfl rfl rfl rfl rfl (qj rfl) ⟨rfl,rfl,trivial⟩ ?_;refine dx rfl (dw rfl) ⟨rfl,rfl,trivial⟩ ?_;refine aT ?_;refine a7 ?_;exact SE.fin [] (by repeat (first |exact trivial |refine⟨rfl,?_⟩)) rfl
    |false=>
     refine qN rfl rfl ?_;refine qN rfl rfl ?_;refine Ac rfl rfl rfl rfl rfl rfl rfl ?_;refine Ac rfl rfl rfl rfl rfl rfl rfl ?_;refine Ac rfl rfl rfl rfl rfl rfl rfl ?_;refine dx rfl (dV rfl) ⟨rfl,rfl,trivial⟩ ?_;refine aT ?_;refine a7 ?_;exact SE.fin [] (by repeat (first |exact trivial |refine⟨rfl,?_⟩)) rfl
   ·cases e with
    |normal=>
     have hb:=jR q2 (s:=18) rfl;refine bc.move (fun _ _=>qx hb) ?_;by_cases hf:eP (rn,rs) now=true
     ·rw [if_pos hf];refine bc.move (fun _ _=>oI) ?_;refine pJ (c:=Kt Sh v) (i:=0) (rest:=[1,2]) (Γ':=(19,.eq (.chan (some cf)))::HS d cf cb (eP (rn,rs) now)) (Δ':=[]) bc rfl q2 rfl rfl (dx rfl (ao (t:=.val) rfl vG rfl) ⟨rfl,trivial⟩ (aT (a7 fun _ _ h=>h))) fun a3 v3 q3=>?_;refine pJ (c:=Kt Sh v) (i:=1) (rest:=[2]) (Γ':=(20,.eq (.int .i64 d))::(19,.eq (.chan (some cf)))::HS d cf cb (eP (rn,rs) now)) (Δ':=[]) bc rfl q3 rfl rfl (dx rfl (ao (t:=.int .i64) rfl cj rfl) ⟨rfl,trivial⟩ (aT (a7 fun _ _ h=>h))) fun a4 v4 q4=>?_;exact send 19 20 a4 v4 _ _ cf (by rw [hf];rfl) rfl rfl rfl rfl q4.1 (jR q4 (s:=19) rfl) (jR q4 (s:=20) rfl)
     ·rw [if_neg hf];have hf:eP (rn,rs) now=false:=by simpa using hf
      refine bc.move (fun _ _=>oI) ?_;refine pJ (c:=Kt Sh v) (i:=0) (rest:=[1,2]) (Γ':=(21,.eq (.chan (some cb)))::HS d cf cb (eP (rn,rs) now)) (Δ':=[]) bc rfl q2 rfl rfl (dx rfl (ao (t:=.val) rfl vG rfl) ⟨rfl,trivial⟩ (aT (a7 fun _ _ h=>h))) fun a3 v3 q3=>?_;refine pJ (c:=Kt Sh v) (i:=1) (rest:=[2]) (Γ':=(22,.eq (.int .i64 d))::(21,.eq (.chan (some cb)))::HS d cf cb (eP (rn,rs) now)) (Δ':=[]) bc rfl q3 rfl rfl (dx rfl (ao (t:=.int .i64) rfl cj rfl) ⟨rfl,trivial⟩ (aT (a7 fun _ _ h=>h))) fun a4 v4 q4=>?_;exact send 21 22 a4 v4 _ _ cb (by rw [hf];rfl) rfl rfl rfl rfl q4.1 (jR q4 (s:=21) rfl) (jR q4 (s:=22) rfl)
    |ret=>exact q2.elim
    |exit id=>exact q2.elim
    |goto l=>exact q2.elim
    |panic ch=>exact q2.elim
    |outgrown=>exact q2.elim
  |ret=>exact q1.elim
  |exit id=>exact q1.elim
  |goto l=>exact q1.elim
  |panic ch=>exact q1.elim
  |outgrown=>exact q1.elim
end
end Go.Proofs.YtopgphikdglphaaGreat
set_option linter.unusedVariables false
set_option maxRecDepth 4000
namespace Go.Proofs.YtopgphikdglphaaGreat
open K Go Go.Proofs Go.Conc
@[reducible] noncomputable def nZ (S:FS) (v:VW) (rest:List D):Cx:=⟨Tryz.prog,69,S,v,aS rest,none,[],Md.plain Tryz.prog⟩
def NI(v0:VW)(S0:FS)(rest:List D)(Γ:Ga)(a:Act)(v:VW):Prop:=
 ∃S,a.defers=[]∧a.tmps.size=69∧bX (aS rest) S0 (ez v0) S (ez v)∧bo rest S v∧∀s r,lk Γ s=some r→r.holds S v (a.tmps.getD s undef)
theorem NI.st{v0:VW}{S0:FS}{rest:List D}{Γ:Ga}{a:Act}{v:VW}(h:NI v0 S0 rest Γ a v):∃S,St (nZ S v rest) Γ rest a v∧∀Γ' a' v',St (nZ S v rest) Γ' rest a' v'→NI v0 S0 rest Γ' a' v':=by
 obtain⟨S,h1,h2,h3,h4,h5⟩:=h;refine⟨S,⟨h1,h2,S,bX.refl h3.dom,fun b hb=>.inl hb,h4,h5⟩,?_⟩;rintro Γ' a' v' ⟨g1,g2,S',g3,g4,g5,g6⟩;exact⟨S',g1,g2,h3.trans g3.ez fun b hb=>.inl hb,g5,g6⟩
section
variable {k:Nat}{q:fp}{now m:Int}{cf cb:Nat}{v0:VW}{S0:FS}{rest:List D}{sd:Nat→Nat×Value}{n:Nat}{pe:Nat→Prop}{Gd:Machine→Trace→Prop}
@[reducible] noncomputable def ke (q:fp) (now m:Int) (cf cb:Nat) (i:Int):Ga:=[(4,.at (.ptr di) q),(7,.at (.int .i64) now),(9,.at .val (.chan (some cf))),(10,.at .val (.chan (some cb))),(40,.eq (.int .i64 m)),(41,.eq (.int .i64 i))]
@[reducible] noncomputable def LQ (q:fp) (now m:Int) (cf cb:Nat) (i:Int) (b:Bool):Ga:=(42,.eq (.bool b))::ke q now m cf cb i
@[reducible] noncomputable def Ee (q:fp) (now m:Int) (cf cb:Nat) (i:Int):Ga:=(11,.at (.int .i64) i)::ke q now m cf cb i
@[reducible] def wG(t1 t2 t3 t4 t5 t6 t7 t8:TypeId)(s1 s2 s3 s4 s5 s6 s7 s8:String)(e1 e2 e3 e4 e5 e6 e7 e8:Array Edge):Code:=
 .seq (.region 9 #[⟨some 42,.binOp .lss 3 (.tmp 41) (.tmp 40) 3,t1,s1,e1,none⟩] false) (.seq (.cond (.tmp 42) .skip (.exit 0)) (.seq (.block 1 (.seq
  (.region 10 #[⟨some 43,.move (.tmp 41),t2,s2,e2,none⟩,⟨some 11,.alloc 3,t3,s3,e3,none⟩,⟨none,.store 3 (.tmp 11) (.tmp 43),t4,s4,e4,none⟩] false)
  (.region 11 #[⟨some 44,.makeFunc (.func 32) #[] #[.tmp 4,.tmp 11,.tmp 7,.tmp 9,.tmp 10],t5,s5,e5,none⟩,⟨none,.go { callee:=.value (.tmp 44),args:= #[],argTypes:= #[] },t6,s6,e6,none⟩] false)))
  (.region 12 #[⟨some 45,.binOp .add 3 (.tmp 41) (.const (.int .i64 1)) 3,t7,s7,e7,none⟩,⟨some 41,.move (.tmp 45),t8,s8,e8,none⟩] false)))
theorem FB(hnx:∀m m' t ops,stepT Tryz.prog m=(.next m',ops)→Gd m' (t++ops)→Gd m t){i:Nat}{r:Int×Bool}(him:(i:Int) < m)(hmm:m≤1000000)(hw:bW k q i=some r)(hn:0 < n)(hsd:sd n=(cond (eP r now) cf cb,.int .i64 i))
 {t1 t2 t3 t4 t5 t6 t7 t8:TypeId} {s1 s2 s3 s4 s5 s6 s7 s8:String} {e1 e2 e3 e4 e5 e6 e7 e8:Array Edge}
 {a:Act} {v:VW} {b:Frame} {kk:List Item} {cs:List Frame} (hb:b.roundOf=none) (hcf:v.A cf) (hcb:v.A cb) (hI:NI v0 S0 rest (ke q now m cf cb i) a v)
 (next:∀a' v',v'.A cf→v'.A cb→NI v0 S0 rest (ke q now m cf cb ((i+1:Nat):Int)) a' v'→TC Tryz.prog cf cb sd (n+1) (upd pe n True) Gd v' (b.atR a' kk) cs):
 TC Tryz.prog cf cb sd n pe Gd v (b.atR a (.code (wG t1 t2 t3 t4 t5 t6 t7 t8 s1 s2 s3 s4 s5 s6 s7 s8 e1 e2 e3 e4 e5 e6 e7 e8)::kk)) cs:=by
 have bc:BC Tryz.prog (TC Tryz.prog cf cb sd n pe Gd):=TC.bc hnx
 obtain⟨S,i1,i2,i3,i4,i5⟩:=hI
 have st:St (nZ S v rest) (ke q now m cf cb i) rest a v:=⟨i1,i2,S,bX.refl i3.dom,fun b hb=>.inl hb,i4,i5⟩
 refine bc.move (fun _ _=>jT) ?_
 refine jp (c:=nZ S v rest) (Q:=yc (nZ S v rest) (LQ q now m cf cb i true) rest) bc hb st ?_ (fun e a1 v1 q1=>?_)
 ·
  refine ah ?_;refine dx rfl (ba rfl) ⟨rfl,rfl,trivial⟩ ?_;refine aT (a7 ?_);rw [decide_eq_true him];exact fun _ _ h=>h
 cases e with
 |normal=>
  refine bc.move (fun _ _=>jT) ?_;refine bc.move (fun _ _=>qx (t:=true) (jR q1 (s:=42) rfl)) ?_;rw [if_pos rfl];refine bc.move (fun _ _=>zL) ?_;refine bc.move (fun _ _=>jT) ?_;refine bc.move (fun _ _=>rj) ?_;refine bc.move (fun _ _=>jT) ?_;refine jp (c:=nZ S v rest) (Q:=yc (nZ S v rest) (Ee q now m cf cb i) rest) bc hb q1 ?_ (fun e a2 v2 q2=>?_)
  ·refine ah ?_;refine qN rfl rfl ?_;refine aA rfl rfl rfl (aF rfl ym yX) trivial fun b11=>?_;refine aK rfl rfl (aE rfl cj rfl rfl rfl) ⟨rfl,rfl,trivial⟩ ?_;refine eX (lV (t:=.int .i64) (x:=(i:Int)) [11] .int ⟨rfl,trivial⟩) ?_;refine aT (a7 ?_);exact tY (junk:=[]) (by repeat (first |exact trivial |refine⟨rfl,?_⟩)) te
  ·cases e with
   |normal=>
    obtain⟨g1,g2,S2,g3,g4,g5,g6⟩:=q2;have g1:a2.defers=[]:=g1;have g2:a2.tmps.size=69:=g2;refine bc.move (fun _ _=>oI) ?_;let x:Value:=.func (.func 32) #[] #[a2.tmps.getD 4 undef,a2.tmps.getD 11 undef,a2.tmps.getD 7 undef,a2.tmps.getD 9 undef,a2.tmps.getD 10 undef];refine bc.step _ _ _ fun v3 hr=>?_
    have hsem:Oper.semAt b.roundOf a2.eval ⟨some 44,.makeFunc (.func 32) #[] #[.tmp 4,.tmp 11,.tmp 7,.tmp 9,.tmp 10],t5,s5,e5,none⟩=pure (.value x):=by
     rw [hb,Oper.semAt_none];simp [execOp,Instr.makeFunc,x,Act.eval]
    obtain⟨es,h1,h2⟩:=zK (P:=Tryz.prog) (b:=b) (a:=a2) (w:=v3.toWorld) (w':=v3.toWorld) (x:=x) (k:=.inBlock 1:: .code (.region 12 #[⟨some 45,.binOp .add 3 (.tmp 41) (.const (.int .i64 1)) 3,t7,s7,e7,none⟩,⟨some 41,.move (.tmp 45),t8,s8,e8,none⟩] false)::kk) (cs:=cs) (rest:=[1]) (i:=0) (o:=⟨some 44,.makeFunc (.func 32) #[] #[.tmp 4,.tmp 11,.tmp 7,.tmp 9,.tmp 10],t5,s5,e5,none⟩)
     (ops:= #[⟨some 44,.makeFunc (.func 32) #[] #[.tmp 4,.tmp 11,.tmp 7,.tmp 9,.tmp 10],t5,s5,e5,none⟩,⟨none,.go { callee:=.value (.tmp 44),args:= #[],argTypes:= #[] },t6,s6,e6,none⟩]) rfl (az rfl _) (by rw [hsem];rfl)
    refine⟨_,_,v3.toWorld,es,h2,(iD.refl v3).sub (fun e he=>by have:=h1 e he;rw [hsem] at this;exact this),?_⟩;have hO3:=g5.rely g3.dom hr;have hd3:∀y,S2 y→y < v3.heap.size:=fun y hy=>Nat.lt_of_lt_of_le (g3.dom y hy) hr.size;have hK3:=lQ g3.dom g5.sees hr;have h63:∀s r,lk (Ee q now m cf cb i) s=some r→r.holds S2 v3 (a2.tmps.getD s undef):=fun s r hl=>A.mono (fun _ h=>h) hK3 r (g6 s r hl);have hcf3:v3.A cf:=hr.sub cf (g3.subA cf hcf);have hcb3:v3.A cb:=hr.sub cb (g3.subA cb hcb)
    have hx:(a2.put (some 44) x).eval (.tmp 44)=x:=by
     show(a2.put (some 44) x).tmps.getD 44 undef=x;rw [lr (by rw [g2];decide),if_pos rfl]
    have hchS:∀c,c=cf∨c=cb→¬S2 c:=fun c hc hS=>by
     rcases hc with rfl |rfl
     ·exact hO3.sees _ hS hcf3
     ·exact hO3.sees _ hS hcb3
    have hsdc:(sd n).1=cf∨(sd n).1=cb:=by
     rw [hsd];cases eP r now
     ·exact .inr rfl
     ·exact .inl rfl
    refine TC.spawn hnx (Sh:=S2) (fc:=ia Tryz.prog { target:=.fn (.func 32) #[a2.tmps.getD 4 undef,a2.tmps.getD 11 undef,a2.tmps.getD 7 undef,a2.tmps.getD 9 undef,a2.tmps.getD 10 undef],args:= #[] }) hn (fun w0=>Pg (i:=1) (rest:=[]) rfl (az rfl _) rfl rfl hx) (fun y hy=>⟨hd3 y hy,hO3.sees y hy⟩)
     hchS (fun v4 hr4=>?_) hsdc ?_
    ·rw [hsd];have hd4:∀y,S2 y→y < v4.heap.size:=fun y hy=>Nat.lt_of_lt_of_le (hd3 y hy) hr4.size;have h64:∀s r,lk (Ee q now m cf cb i) s=some r→r.holds S2 v4 (a2.tmps.getD s undef):=fun s r hl=>A.mono (fun _ h=>h) (lQ hd3 hO3.sees hr4) r (h63 s r hl)
     exact FA hw (v:=⟨v4.toWorld,fun b=>b < v4.heap.size∧¬S2 b,S2⟩) hd4 ⟨fun _ h=>by simp at h,fun _ hb=>(iW hb).elim,List.Pairwise.nil,fun _ hb=>(iW hb).elim,fun y hy h=>h.2 hy,fun _ h=>h.1,hd4⟩
      ⟨_,_,rfl,h64 4 _ rfl,_,_,rfl,h64 11 _ rfl,_,_,rfl,h64 7 _ rfl,_,_,rfl,h64 9 _ rfl,_,_,rfl,h64 10 _ rfl,rfl⟩
    ·have bc':BC Tryz.prog (TC Tryz.prog cf cb sd (n+1) (upd pe n True) Gd):=TC.bc hnx;refine bc'.move (fun _ _=>mK) ?_;refine bc'.move (fun _ _=>ri) ?_;have hO4:bo rest S2 ⟨v3.toWorld,v3.A,fun b=>v3.Z b∨S2 b⟩:=⟨hO3.holds,hO3.own,hO3.apart,fun y hy=>⟨(hO3.far y hy).1,fun hz=>hz.elim (hO3.far y hy).2 (hO3.own y hy).1⟩,hO3.sees,hO3.domA,fun y hy=>hy.elim (hO3.domZ y) (hd3 y)⟩;have hE:bX (aS rest) S0 (ez v0) S2 (ez ⟨v3.toWorld,v3.A,fun b=>v3.Z b∨S2 b⟩):=(i3.trans g3.ez fun b hb=>.inl hb).trans (bX.rely (X:=aS rest) g3.dom hr).ez fun b hb=>.inl hb
     have st4:St (nZ S2 ⟨v3.toWorld,v3.A,fun b=>v3.Z b∨S2 b⟩ rest) (ke q now m cf cb i) rest ((a2.put (some 44) x).put none undef) ⟨v3.toWorld,v3.A,fun b=>v3.Z b∨S2 b⟩:=by
      refine⟨g1,by simpa [Act.put] using g2,S2,bX.refl hd3,fun b hb=>.inl hb,hO4,fun s r hl=>?_⟩;have hs:s≠44:=fun e=>by subst e;simp [lk] at hl
      have e1:((a2.put (some 44) x).put none undef).tmps.getD s undef=a2.tmps.getD s undef:=by
       show(a2.put (some 44) x).tmps.getD s undef=_;rw [lr (by rw [g2];decide),if_neg (fun e=>hs e.symm)]
      rw [e1];have hs11:s≠11:=fun e=>by subst e;simp [lk] at hl
      refine h63 s r ?_;simp only [Ee,lk];rw [if_neg (fun e=>hs11 e.symm)];exact hl
     refine jp (c:=nZ S2 ⟨v3.toWorld,v3.A,fun b=>v3.Z b∨S2 b⟩ rest) (Q:=yc (nZ S2 ⟨v3.toWorld,v3.A,fun b=>v3.Z b∨S2 b⟩ rest) (ke q now m cf cb ((i+1:Nat):Int)) rest) bc' hb st4 ?_ (fun e a5 v5 q5=>?_)
     ·refine ah ?_;refine dx rfl (bh rfl (q:=((i+1:Nat):Int)) (by unfold ck;rw [if_pos (by omega)];congr 1)) ⟨rfl,rfl,trivial⟩ ?_;refine qN rfl rfl ?_;refine aT (a7 ?_);exact tY (junk:=[]) (by repeat (first |exact trivial |refine⟨rfl,?_⟩)) te
     ·cases e with
      |normal=>
       obtain⟨k1,k2,S5,k3,k4,k5,k6⟩:=q5;exact next a5 v5 (k3.subA cf hcf3) (k3.subA cb hcb3) ⟨S5,k1,k2,hE.trans k3.ez fun b hb=>.inl hb,k5,k6⟩
      |ret=>exact q5.elim
      |exit id=>exact q5.elim
      |goto l=>exact q5.elim
      |panic ch=>exact q5.elim
      |outgrown=>exact q5.elim
   |ret=>exact q2.elim
   |exit id=>exact q2.elim
   |goto l=>exact q2.elim
   |panic ch=>exact q2.elim
   |outgrown=>exact q2.elim
 |ret=>exact q1.elim
 |exit id=>exact q1.elim
 |goto l=>exact q1.elim
 |panic ch=>exact q1.elim
 |outgrown=>exact q1.elim
theorem NY{n0 i:Nat}:upd (fun j=>n0≤j∧j < n0+i) (n0+i) True=fun j=>n0≤j∧j < n0+(i+1):=by
 funext j;unfold upd;split
 ·rename_i e;subst e;simp
 ·rename_i e;simp only [eq_iff_iff];omega
theorem yB(hnx:∀m m' t ops,stepT Tryz.prog m=(.next m',ops)→Gd m' (t++ops)→Gd m t){N n0:Nat}{rs:Nat→Int×Bool}(hN:N≤1000000)(hn0:0 < n0)(hws:∀i,i < N→bW k q i=some (rs i))(hsd:∀i,i < N→sd (n0+i)=(cond (eP (rs i) now) cf cb,.int .i64 i))
 {t1 t2 t3 t4 t5 t6 t7 t8:TypeId} {s1 s2 s3 s4 s5 s6 s7 s8:String} {e1 e2 e3 e4 e5 e6 e7 e8:Array Edge} {b:Frame} {kk:List Item} {cs:List Frame} (hb:b.roundOf=none)
 (next:∀a' v',v'.A cf→v'.A cb→NI v0 S0 rest (ke q now N cf cb N) a' v'→TC Tryz.prog cf cb sd (n0+N) (fun j=>n0≤j∧j < n0+N) Gd v' (b.atR a' kk) cs):
 ∀(d i:Nat),i+d=N→∀(a:Act) (v:VW),v.A cf→v.A cb→NI v0 S0 rest (ke q now N cf cb i) a v→
  TC Tryz.prog cf cb sd (n0+i) (fun j=>n0≤j∧j < n0+i) Gd v (b.atR a (.code (wG t1 t2 t3 t4 t5 t6 t7 t8 s1 s2 s3 s4 s5 s6 s7 s8 e1 e2 e3 e4 e5 e6 e7 e8):: .inLoop (wG t1 t2 t3 t4 t5 t6 t7 t8 s1 s2 s3 s4 s5 s6 s7 s8 e1 e2 e3 e4 e5 e6 e7 e8):: .inBlock 0::kk)) cs
 |0,i,hi,a,v,hcf,hcb,hI=>by
  have e:i=N:=by omega
  subst e
  have bc:BC Tryz.prog (TC Tryz.prog cf cb sd (n0+i) (fun j=>n0≤j∧j < n0+i) Gd):=TC.bc hnx
  obtain⟨S,i1,i2,i3,i4,i5⟩:=hI
  have st:St (nZ S v rest) (ke q now i cf cb i) rest a v:=⟨i1,i2,S,bX.refl i3.dom,fun b hb=>.inl hb,i4,i5⟩
  refine bc.move (fun _ _=>jT) ?_
  refine jp (c:=nZ S v rest) (Q:=yc (nZ S v rest) (LQ q now i cf cb i false) rest) bc hb st ?_ (fun e a1 v1 q1=>?_)
  ·
   refine ah ?_
   refine dx rfl (ba rfl) ⟨rfl,rfl,trivial⟩ ?_
   refine aT (a7 ?_)
   rw [decide_eq_false (Int.lt_irrefl _)]
   exact fun _ _ h=>h
  cases e with
  |normal=>
   refine bc.move (fun _ _=>jT) ?_
   refine bc.move (fun _ _=>qx (t:=false) (jR q1 (s:=42) rfl)) ?_
   rw [if_neg (by decide)]
   refine bc.move (fun _ _=>Du (k':=kk) (by simp [exitTo])) ?_
   obtain⟨k1,k2,S5,k3,k4,k5,k6⟩:=q1
   refine next a1 v1 (k3.subA cf hcf) (k3.subA cb hcb) ⟨S5,k1,k2,i3.trans k3.ez fun b hb=>.inl hb,k5,fun s r hl=>k6 s r ?_⟩
   have hs:s≠42:=fun e=>by subst e;simp [lk] at hl
   simp only [lk]
   rw [if_neg (fun e=>hs e.symm)]
   exact hl
  |ret=>exact q1.elim
  |exit id=>exact q1.elim
  |goto l=>exact q1.elim
  |panic ch=>exact q1.elim
  |outgrown=>exact q1.elim
 |d+1,i,hi,a,v,hcf,hcb,hI=>by
  refine FB hnx (r:=rs i) (by omega) (by omega) (hws i (by omega)) (by omega) (hsd i (by omega)) hb hcf hcb hI fun a' v' hcf' hcb' hI'=>?_
  rw [NY]
  have bc:BC Tryz.prog (TC Tryz.prog cf cb sd (n0+i+1) (fun j=>n0≤j∧j < n0+(i+1)) Gd):=TC.bc hnx
  refine bc.move (fun _ _=>wU) ?_
  exact yB hnx hN hn0 hws hsd hb next d (i+1) (by omega) a' v' hcf' hcb' hI'
end
end Go.Proofs.YtopgphikdglphaaGreat
set_option linter.unusedVariables false
set_option maxRecDepth 4000
namespace Go.Proofs.YtopgphikdglphaaGreat
open K Go Go.Proofs Go.Conc
def mw(rs:Nat→Int×Bool)(o:Nat→Int)(now:Int)(s:Int)(i:Nat):Int:=if eP (rs i) now then nF .u8 s (o i) else s
def kK(rs:Nat→Int×Bool)(o:Nat→Int)(now:Int)(l:List Nat):Int:=l.foldl (mw rs o now) 0
theorem wI{rs:Nat→Int×Bool}{o:Nat→Int}{now:Int}{l:List Nat}{i:Nat}:kK rs o now (l++[i])=mw rs o now (kK rs o now l) i:=by simp [kK]
section
variable {k:Nat}{now:Int}{cf cb N n0:Nat}{v0:VW}{S0:FS}{rest:List D}{sd:Nat→Nat×Value}{Gd:Machine→Trace→Prop}{rs:Nat→Int×Bool}{o:Nat→Int}
@[reducible] noncomputable def nh (cf cb:Nat) (m s j:Int):Ga:=[(9,.at .val (.chan (some cf))),(10,.at .val (.chan (some cb))),(12,.eq (.int .u8 s)),(51,.eq (.int .i64 m)),(52,.eq (.int .i64 j))]
@[reducible] noncomputable def HQ (cf cb:Nat) (m s j:Int) (b:Bool):Ga:=(53,.eq (.bool b))::nh cf cb m s j
@[reducible] noncomputable def LP (cf cb:Nat) (m s j:Int):Ga:=(55,.eq (.chan (some cb)))::(54,.eq (.chan (some cf)))::nh cf cb m s j
@[reducible] noncomputable def A4 (cf cb:Nat) (m s j kk x0 x1:Int):Ga:=(56,.tup (.pair (.eq (.int .i64 kk)) (.pair (.eq (.bool true)) (.pair (.eq (.int .i64 x0)) (.pair (.eq (.int .i64 x1)) .any)))))::nh cf cb m s j
@[reducible] def wF(t:Nat→TypeId)(s:Nat→String)(e:Nat→Array Edge):Code:=
 .seq (.region 15 #[⟨some 53,.binOp .lss 3 (.tmp 52) (.tmp 51) 3,t 0,s 0,e 0,none⟩] false) (.seq (.cond (.tmp 53) .skip (.exit 2)) (.seq
  (.block 3 (.seq (.seq (.region 16 #[⟨some 54,.load 74 (.tmp 9),t 1,s 1,e 1,none⟩] false) (.region 17 #[⟨some 55,.load 74 (.tmp 10),t 2,s 2,e 2,none⟩] false))
   (.seq (.region 18 #[⟨some 56,.select #[{ chan:=.tmp 54,send:=none,elem:=3 },{ chan:=.tmp 55,send:=none,elem:=3 }] true,t 3,s 3,e 3,none⟩,⟨some 57,.extract (.tmp 56) 0,t 4,s 4,e 4,none⟩,
    ⟨some 58,.binOp .eql 3 (.tmp 57) (.const (.int .i64 0)) 3,t 5,s 5,e 5,none⟩,⟨some 59,.binOp .eql 3 (.tmp 57) (.const (.int .i64 1)) 3,t 6,s 6,e 6,none⟩] false)
    (.block 4 (.cond (.tmp 58) (.seq (.region 19 #[⟨some 60,.extract (.tmp 56) 2,t 7,s 7,e 7,none⟩,⟨some 13,.assign (.tmp 60),t 8,s 8,e 8,none⟩] false)
     (.region 20 #[⟨some 61,.move (.tmp 12),t 9,s 9,e 9,none⟩,⟨some 62,.move (.tmp 13),t 10,s 10,e 10,none⟩,⟨some 63,.buildSlice 24 1 #[(0,.tmp 62)],t 11,s 11,e 11,none⟩,
      ⟨some 64,.call { callee:=.value (.func 34),args:= #[.tmp 63],argTypes:= #[24] },t 12,s 12,e 12,none⟩,⟨some 65,.binOp .or 76 (.tmp 61) (.tmp 64) 76,t 13,s 13,e 13,none⟩,⟨some 12,.assign (.tmp 65),t 14,s 14,e 14,none⟩] false)) (.cond (.tmp 59) .skip .skip))))))
  (.region 21 #[⟨some 66,.binOp .add 3 (.tmp 52) (.const (.int .i64 1)) 3,t 15,s 15,e 15,none⟩,⟨some 52,.move (.tmp 66),t 16,s 16,e 16,none⟩] false)))
theorem LO:∀w:World,(zeroValue 3).runT Tryz.prog w #[]=(.ok (.int .i64 0) w, #[]):=fun w=>by kernel_rfl
theorem HO{pe:Nat→Prop}{n:Nat}(bc:BC Tryz.prog (TC Tryz.prog cf cb sd n pe Gd)){t:Nat→TypeId}{s:Nat→String}{e:Nat→Array Edge}{m sv j kk x0 x1:Int}{S:FS}{u v:VW}{a:Act}{b:Frame}{K:List Item}{cs:List Frame}(hb:b.roundOf=none)
 (hkk:kk=0∨kk=1) {s':Int} (h0:kk=0→∃i:Nat,x0=i∧∃y,eK k [x0]=some y∧s'=nF .u8 sv y) (h1:kk=1→s'=sv) (hj:ck (j+1)=some (j+1))
 (st:St (nZ S u rest) (A4 cf cb m sv j kk x0 x1) rest a v)
 (next:∀a' v',St (nZ S u rest) (nh cf cb m s' (j+1)) rest a' v'→TC Tryz.prog cf cb sd n pe Gd v' (b.atR a' K) cs):
 TC Tryz.prog cf cb sd n pe Gd v (b.atR a (.inRegion #[⟨some 56,.select #[{ chan:=.tmp 54,send:=none,elem:=3 },{ chan:=.tmp 55,send:=none,elem:=3 }] true,t 3,s 3,e 3,none⟩,⟨some 57,.extract (.tmp 56) 0,t 4,s 4,e 4,none⟩,
  ⟨some 58,.binOp .eql 3 (.tmp 57) (.const (.int .i64 0)) 3,t 5,s 5,e 5,none⟩,⟨some 59,.binOp .eql 3 (.tmp 57) (.const (.int .i64 1)) 3,t 6,s 6,e 6,none⟩] [1,2,3]::
  .code (.block 4 (.cond (.tmp 58) (.seq (.region 19 #[⟨some 60,.extract (.tmp 56) 2,t 7,s 7,e 7,none⟩,⟨some 13,.assign (.tmp 60),t 8,s 8,e 8,none⟩] false)
   (.region 20 #[⟨some 61,.move (.tmp 12),t 9,s 9,e 9,none⟩,⟨some 62,.move (.tmp 13),t 10,s 10,e 10,none⟩,⟨some 63,.buildSlice 24 1 #[(0,.tmp 62)],t 11,s 11,e 11,none⟩,
    ⟨some 64,.call { callee:=.value (.func 34),args:= #[.tmp 63],argTypes:= #[24] },t 12,s 12,e 12,none⟩,⟨some 65,.binOp .or 76 (.tmp 61) (.tmp 64) 76,t 13,s 13,e 13,none⟩,⟨some 12,.assign (.tmp 65),t 14,s 14,e 14,none⟩] false)) (.cond (.tmp 59) .skip .skip)))::
  .inBlock 3:: .code (.region 21 #[⟨some 66,.binOp .add 3 (.tmp 52) (.const (.int .i64 1)) 3,t 15,s 15,e 15,none⟩,⟨some 52,.move (.tmp 66),t 16,s 16,e 16,none⟩] false)::K)) cs:=by
 refine pJ (c:=nZ S u rest) (i:=1) (rest:=[2,3]) (Γ':=(57,.eq (.int .i64 kk))::A4 cf cb m sv j kk x0 x1) (Δ':=rest) bc hb st rfl rfl (dx rfl (fa rfl rfl) ⟨rfl,trivial⟩ (aT (a7 fun _ _ h=>h))) fun a1 v1 q1=>?_
 refine pJ (c:=nZ S u rest) (i:=2) (rest:=[3]) (Γ':=(58,.eq (.bool (decide (kk=0))))::(57,.eq (.int .i64 kk))::A4 cf cb m sv j kk x0 x1) (Δ':=rest) bc hb q1 rfl rfl (dx rfl (cM rfl) ⟨rfl,rfl,trivial⟩ (aT (a7 fun _ _ h=>h))) fun a2 v2 q2=>?_
 refine pJ (c:=nZ S u rest) (i:=3) (rest:=[]) (Γ':=(59,.eq (.bool (decide (kk=1))))::(58,.eq (.bool (decide (kk=0))))::(57,.eq (.int .i64 kk))::A4 cf cb m sv j kk x0 x1) (Δ':=rest) bc hb q2 rfl rfl (dx rfl (cM rfl) ⟨rfl,rfl,trivial⟩ (aT (a7 fun _ _ h=>h))) fun a3 v3 q3=>?_
 refine bc.move (fun _ _=>mK) ?_
 refine bc.move (fun _ _=>rj) ?_
 have tail:∀a4 v4,St (nZ S u rest) (nh cf cb m s' j) rest a4 v4→TC Tryz.prog cf cb sd n pe Gd v4 (b.atR a4 (.inBlock 4:: .inBlock 3:: .code (.region 21 #[⟨some 66,.binOp .add 3 (.tmp 52) (.const (.int .i64 1)) 3,t 15,s 15,e 15,none⟩,⟨some 52,.move (.tmp 66),t 16,s 16,e 16,none⟩] false)::K)) cs:=fun a4 v4 q4=>by
  refine bc.move (fun _ _=>ri) ?_;refine bc.move (fun _ _=>ri) ?_;refine jp (c:=nZ S u rest) (Q:=yc (nZ S u rest) (nh cf cb m s' (j+1)) rest) bc hb q4 ?_ (fun e a5 v5 q5=>?_)
  ·refine ah ?_;refine dx rfl (bh rfl hj) ⟨rfl,rfl,trivial⟩ ?_;refine qN rfl rfl ?_;refine aT (a7 ?_);exact tY (junk:=[]) (by repeat (first |exact trivial |refine⟨rfl,?_⟩)) te
  ·cases e with
   |normal=>exact next a5 v5 q5
   |ret=>exact q5.elim
   |exit id=>exact q5.elim
   |goto l=>exact q5.elim
   |panic ch=>exact q5.elim
   |outgrown=>exact q5.elim
 refine bc.move (fun _ _=>qx (jR q3 (s:=58) rfl)) ?_
 rcases hkk with rfl |rfl
 ·
  rw [if_pos (by decide)];obtain⟨i,rfl,y,hy,rfl⟩:=h0 rfl;refine jp (c:=nZ S u rest) (Q:=yc (nZ S u rest) (nh cf cb m (nF .u8 sv y) j) rest) bc hb q3 ?_ (fun e a4 v4 q4=>?_)
  ·refine aj ?_;refine ah ?_;refine dx rfl (fa rfl rfl) ⟨rfl,trivial⟩ ?_;refine BX rfl rfl ?_;refine aT (a7 ?_);show JC _ _ _ _ _;refine ah ?_;refine qN rfl rfl ?_;refine qN rfl rfl ?_;refine dx rfl (bv (t:=(.int .i64)) [(.tmp 62,_)] [(i:Int)] rfl rfl eo (.cons rfl .int .nil) rfl rfl) ⟨rfl,trivial⟩ ?_;refine dx rfl (ak [.tmp 63] rfl rfl uP rfl (fJ k [(i:Int)] y hy)) ⟨rfl,trivial⟩ ?_;refine dx rfl (xU rfl) ⟨rfl,rfl,trivial⟩ ?_;refine BX rfl rfl ?_;refine aT (a7 ?_);exact tY (junk:=[]) (by repeat (first |exact trivial |refine⟨rfl,?_⟩)) te
  ·cases e with
   |normal=>exact tail a4 v4 q4
   |ret=>exact q4.elim
   |exit id=>exact q4.elim
   |goto l=>exact q4.elim
   |panic ch=>exact q4.elim
   |outgrown=>exact q4.elim
 ·
  rw [if_neg (by decide)];obtain rfl:=h1 rfl;refine bc.move (fun _ _=>qx (jR q3 (s:=59) rfl)) ?_;rw [if_pos (by decide)];refine bc.move (fun _ _=>zL) ?_;exact tail a3 v3 ((tY (junk:=[]) (by repeat (first |exact trivial |refine⟨rfl,?_⟩)) te) a3 v3 q3)
theorem JS{n0:Nat}{pd:List Nat}(hn:pd.Nodup){j:Nat}(hj:n0≤j):upd (fun j=>n0≤j∧(j - n0)∈pd) j False=fun j'=>n0≤j'∧(j' - n0)∈pd.erase (j - n0):=by
 funext j';unfold upd;split
 ·rename_i e;subst e;simp only [eq_iff_iff,false_iff,not_and];intro _ h;exact((hn.mem_erase_iff).1 h).1 rfl
 ·rename_i e;simp only [eq_iff_iff];constructor
  ·exact fun h=>⟨h.1,(hn.mem_erase_iff).2 ⟨by omega,h.2⟩⟩
  ·exact fun h=>⟨h.1,((hn.mem_erase_iff).1 h.2).2⟩
theorem Kp(a b:Nat)(v:Value):commResult #[rcase a (.int .i64 0),rcase b (.int .i64 0)] .select ((0:Nat):Int) v true= .tuple #[.int .i64 0,.bool true,v,.int .i64 0]:=by
 simp [commResult,rcase,List.zipIdx_cons,goInt]
theorem Ko(a b:Nat)(v:Value):commResult #[rcase a (.int .i64 0),rcase b (.int .i64 0)] .select ((1:Nat):Int) v true= .tuple #[.int .i64 1,.bool true,.int .i64 0,v]:=by
 simp [commResult,rcase,List.zipIdx_cons,goInt]
theorem HN(hnx:∀m m' t ops,stepT Tryz.prog m=(.next m',ops)→Gd m' (t++ops)→Gd m t)(hcfb:cf≠cb)(hN:N≤1000000)(hn0:0 < n0)(hsd:∀i,i < N→sd (n0+i)=(cond (eP (rs i) now) cf cb,.int .i64 i))(ho:∀i,i < N→eK k [(i:Int)]=some (o i))
 {t:Nat→TypeId} {s:Nat→String} {e:Nat→Array Edge} {b:Frame} {kk:List Item} {cs:List Frame} (hb:b.roundOf=none)
 (next:∀a' v' (rc:List Nat),rc.Perm (List.range N)→v'.A cf→v'.A cb→NI v0 S0 rest (nh cf cb N (kK rs o now rc) N) a' v'→TC Tryz.prog cf cb sd (n0+N) (fun j=>n0≤j∧(j - n0)∈([]:List Nat)) Gd v' (b.atR a' kk) cs):
 ∀(d:Nat) (rc pd:List Nat),pd.length=d→(rc++pd).Perm (List.range N)→∀(a:Act) (v:VW),v.A cf→v.A cb→NI v0 S0 rest (nh cf cb N (kK rs o now rc) rc.length) a v→
  TC Tryz.prog cf cb sd (n0+N) (fun j=>n0≤j∧(j - n0)∈pd) Gd v (b.atR a (.code (wF t s e):: .inLoop (wF t s e):: .inBlock 2::kk)) cs:=by
 intro d
 induction d with
 |zero=>
  intro rc pd hd hp a v hcf hcb hI;obtain rfl:=List.eq_nil_of_length_eq_zero hd;rw [List.append_nil] at hp;have hlen:rc.length=N:=by rw [hp.length_eq,List.length_range]
  have bc:BC Tryz.prog (TC Tryz.prog cf cb sd (n0+N) (fun j=>n0≤j∧(j - n0)∈([]:List Nat)) Gd):=TC.bc hnx;obtain⟨S,i1,i2,i3,i4,i5⟩:=hI;have st:St (nZ S v rest) (nh cf cb N (kK rs o now rc) rc.length) rest a v:=⟨i1,i2,S,bX.refl i3.dom,fun b hb=>.inl hb,i4,i5⟩;refine bc.move (fun _ _=>jT) ?_;refine jp (c:=nZ S v rest) (Q:=yc (nZ S v rest) (HQ cf cb N (kK rs o now rc) rc.length false) rest) bc hb st ?_ (fun e a1 v1 q1=>?_)
  ·refine ah ?_;refine dx rfl (ba rfl) ⟨rfl,rfl,trivial⟩ ?_;refine aT (a7 ?_);rw [decide_eq_false (by omega)];exact fun _ _ h=>h
  cases e with
  |normal=>
   refine bc.move (fun _ _=>jT) ?_;refine bc.move (fun _ _=>qx (t:=false) (jR q1 (s:=53) rfl)) ?_;rw [if_neg (by decide)];refine bc.move (fun _ _=>Du (k':=kk) (by simp [exitTo])) ?_;obtain⟨k1,k2,S5,k3,k4,k5,k6⟩:=q1;refine next a1 v1 rc hp (k3.subA cf hcf) (k3.subA cb hcb) ⟨S5,k1,k2,i3.trans k3.ez fun b hb=>.inl hb,k5,fun s r hl=>k6 s r ?_⟩;have hs:s≠53:=fun e=>by subst e;simp [lk] at hl
   simp only [HQ,lk];rw [if_neg (fun e=>hs e.symm),hlen];exact hl
  |ret=>exact q1.elim
  |exit id=>exact q1.elim
  |goto l=>exact q1.elim
  |panic ch=>exact q1.elim
  |outgrown=>exact q1.elim
 |succ d ih=>
  intro rc pd hd hp a v hcf hcb hI;have hlen:rc.length+(d+1)=N:=by have:=hp.length_eq;rw [List.length_append,List.length_range,hd] at this;exact this
  have hnd:pd.Nodup:=(List.nodup_append.1 ((hp.nodup_iff).2 List.nodup_range)).2.1;have hlt:∀i∈pd,i < N:=fun i hi=>List.mem_range.1 (hp.mem_iff.1 (List.mem_append.2 (.inr hi)));have bc:BC Tryz.prog (TC Tryz.prog cf cb sd (n0+N) (fun j=>n0≤j∧(j - n0)∈pd) Gd):=TC.bc hnx;obtain⟨S,i1,i2,i3,i4,i5⟩:=hI;have st:St (nZ S v rest) (nh cf cb N (kK rs o now rc) rc.length) rest a v:=⟨i1,i2,S,bX.refl i3.dom,fun b hb=>.inl hb,i4,i5⟩;refine bc.move (fun _ _=>jT) ?_;refine jp (c:=nZ S v rest) (Q:=yc (nZ S v rest) (HQ cf cb N (kK rs o now rc) rc.length true) rest) bc hb st ?_ (fun e a1 v1 q1=>?_)
  ·refine ah ?_;refine dx rfl (ba rfl) ⟨rfl,rfl,trivial⟩ ?_;refine aT (a7 ?_);rw [decide_eq_true (by omega)];exact fun _ _ h=>h
  cases e with
  |normal=>
   refine bc.move (fun _ _=>jT) ?_;refine bc.move (fun _ _=>qx (t:=true) (jR q1 (s:=53) rfl)) ?_;rw [if_pos rfl];refine bc.move (fun _ _=>zL) ?_;refine bc.move (fun _ _=>jT) ?_;refine bc.move (fun _ _=>rj) ?_;refine bc.move (fun _ _=>jT) ?_;refine jp (c:=nZ S v rest) (Q:=yc (nZ S v rest) (LP cf cb N (kK rs o now rc) rc.length) rest) bc hb q1 ?_ (fun e a2 v2 q2=>?_)
   ·refine aj (ah ?_);refine dx rfl (ao (t:=.val) rfl vG rfl) ⟨rfl,trivial⟩ ?_;refine aT (a7 ?_);show JC _ _ _ _ _;refine ah ?_;refine dx rfl (ao (t:=.val) rfl vG rfl) ⟨rfl,trivial⟩ ?_;refine aT (a7 ?_);exact tY (junk:=[]) (by repeat (first |exact trivial |refine⟨rfl,?_⟩)) te
   cases e with
   |normal=>
    refine bc.move (fun _ _=>jT) ?_;refine bc.move (fun _ _=>oI) ?_
    obtain⟨i,hi⟩:∃i,i∈pd:=by
     cases pd with
     |nil=>simp at hd
     |cons x l=>exact⟨x,List.mem_cons_self ..⟩
    refine TC.recv hnx hcfb (z1:=.int .i64 0) (z2:=.int .i64 0) (fun w0=>Ia (i:=0) (rest:=[1,2,3]) rfl (az rfl _) rfl (jR q2 (s:=54) rfl) (jR q2 (s:=55) rfl) LO LO)
     ⟨n0+i,by omega,by have:=hlt i hi;omega,by omega,by rw [Nat.add_sub_cancel_left];exact hi⟩ fun j hj0 hjn hpj kk' hkk=>?_
    obtain⟨hjn0,hjm⟩:=hpj;have hjN:=hlt _ hjm;have hsdj:=hsd (j - n0) hjN;rw [Nat.add_sub_cancel' hjn0] at hsdj;rw [JS hnd hjn0];have bc':BC Tryz.prog (TC Tryz.prog cf cb sd (n0+N) (fun j'=>n0≤j'∧(j' - n0)∈pd.erase (j - n0)) Gd):=TC.bc hnx
    have fin:∀(x0 x1:Int) (kI:Int),(kI=0∨kI=1)→(kI=0→x0=((j - n0:Nat):Int))→(kI=0↔eP (rs (j - n0)) now=true)→
     TC Tryz.prog cf cb sd (n0+N) (fun j'=>n0≤j'∧(j' - n0)∈pd.erase (j - n0)) Gd v2 (b.atR (a2.put (some 56) (.tuple #[.int .i64 kI,.bool true,.int .i64 x0,.int .i64 x1])) (.inRegion #[⟨some 56,.select #[{ chan:=.tmp 54,send:=none,elem:=3 },{ chan:=.tmp 55,send:=none,elem:=3 }] true,t 3,s 3,e 3,none⟩,⟨some 57,.extract (.tmp 56) 0,t 4,s 4,e 4,none⟩,
      ⟨some 58,.binOp .eql 3 (.tmp 57) (.const (.int .i64 0)) 3,t 5,s 5,e 5,none⟩,⟨some 59,.binOp .eql 3 (.tmp 57) (.const (.int .i64 1)) 3,t 6,s 6,e 6,none⟩] [1,2,3]::
      .code (.block 4 (.cond (.tmp 58) (.seq (.region 19 #[⟨some 60,.extract (.tmp 56) 2,t 7,s 7,e 7,none⟩,⟨some 13,.assign (.tmp 60),t 8,s 8,e 8,none⟩] false)
       (.region 20 #[⟨some 61,.move (.tmp 12),t 9,s 9,e 9,none⟩,⟨some 62,.move (.tmp 13),t 10,s 10,e 10,none⟩,⟨some 63,.buildSlice 24 1 #[(0,.tmp 62)],t 11,s 11,e 11,none⟩,
        ⟨some 64,.call { callee:=.value (.func 34),args:= #[.tmp 63],argTypes:= #[24] },t 12,s 12,e 12,none⟩,⟨some 65,.binOp .or 76 (.tmp 61) (.tmp 64) 76,t 13,s 13,e 13,none⟩,⟨some 12,.assign (.tmp 65),t 14,s 14,e 14,none⟩] false)) (.cond (.tmp 59) .skip .skip)))::
      .inBlock 3:: .code (.region 21 #[⟨some 66,.binOp .add 3 (.tmp 52) (.const (.int .i64 1)) 3,t 15,s 15,e 15,none⟩,⟨some 52,.move (.tmp 66),t 16,s 16,e 16,none⟩] false):: .inLoop (wF t s e):: .inBlock 2::kk)) cs:=by
     intro x0 x1 kI hkI hx0 hfree
     obtain⟨g1,g2,S2,g3,g4,g5,g6⟩:=q2
     have g2:a2.tmps.size=69:=g2
     refine HO bc' (S:=S) (u:=v) (v:=v2) (kk:=kI) (x0:=x0) (x1:=x1) (m:=N) (sv:=kK rs o now rc) (j:=rc.length) (s':=kK rs o now (rc++[j - n0])) hb hkI (fun h=>⟨j - n0,hx0 h,o (j - n0),by rw [hx0 h];exact ho _ hjN,by rw [wI,mw,if_pos (hfree.1 h)]⟩)
      (fun h=>by rw [wI,mw,if_neg (fun hf=>by have:=hfree.2 hf;omega)]) (by unfold ck;rw [if_pos (by omega)]) ⟨g1,by simpa [Act.put] using g2,S2,g3,g4,g5,fun s r hl=>?_⟩ fun a5 v5 q5=>?_
     ·
      rw [lr (by rw [g2];decide)];simp only [A4,lk] at hl;split at hl
      ·rename_i e;cases hl;rw [if_pos e];exact⟨[_,_,_,_],rfl,_,_,rfl,rfl,_,_,rfl,rfl,_,_,rfl,rfl,_,_,rfl,rfl,rfl⟩
      ·rename_i e;rw [if_neg e];refine g6 s r ?_;have h54:s≠54:=fun e'=>by subst e';simp [lk] at hl
       have h55:s≠55:=fun e'=>by subst e';simp [lk] at hl
       simp only [LP,lk];rw [if_neg (fun e'=>h55 e'.symm),if_neg (fun e'=>h54 e'.symm)];exact hl
     ·
      refine bc'.move (fun _ _=>wU) ?_;obtain⟨k1,k2,S5,k3,k4,k5,k6⟩:=q5;refine ih (rc++[j - n0]) (pd.erase (j - n0)) (by rw [List.length_erase_of_mem hjm,hd];rfl) ?_ a5 v5 (k3.subA cf hcf) (k3.subA cb hcb) ⟨S5,k1,k2,i3.trans k3.ez fun b hb=>.inl hb,k5,fun s r hl=>k6 s r ?_⟩
      ·rw [List.append_assoc,List.singleton_append];exact((List.perm_cons_erase hjm).symm.append_left rc).trans hp
      ·rw [List.length_append] at hl;exact hl
    show TC Tryz.prog cf cb sd (n0+N) (fun j'=>n0≤j'∧(j' - n0)∈pd.erase (j - n0)) Gd v2 ((b.atR a2 (.inRegion _ (0::[1,2,3])::_)).finish _) cs;rw [Frame.finish_atR];rcases hkk with⟨h1,rfl⟩ |⟨h1,rfl⟩
    ·have hf:eP (rs (j - n0)) now=true:=by
      cases hc:eP (rs (j - n0)) now with
      |true=>rfl
      |false=>rw [hsdj,hc] at h1;exact absurd h1.symm hcfb
     rw [hsdj,Kp];exact fin ((j - n0:Nat):Int) 0 0 (.inl rfl) (fun _=>rfl) ⟨fun _=>hf,fun _=>rfl⟩
    ·have hf:eP (rs (j - n0)) now=false:=by
      cases hc:eP (rs (j - n0)) now with
      |false=>rfl
      |true=>rw [hsdj,hc] at h1;exact absurd h1 hcfb
     rw [hsdj,Ko];exact fin 0 ((j - n0:Nat):Int) 1 (.inr rfl) (fun h=>by omega) ⟨fun h=>by omega,fun h=>by rw [hf] at h;cases h⟩
   |ret=>exact q2.elim
   |exit id=>exact q2.elim
   |goto l=>exact q2.elim
   |panic ch=>exact q2.elim
   |outgrown=>exact q2.elim
  |ret=>exact q1.elim
  |exit id=>exact q1.elim
  |goto l=>exact q1.elim
  |panic ch=>exact q1.elim
  |outgrown=>exact q1.elim
end
end Go.Proofs.YtopgphikdglphaaGreat
set_option linter.unusedVariables false
set_option maxRecDepth 4000
namespace Go.Proofs.YtopgphikdglphaaGreat
open K Go Go.Proofs Go.Conc
theorem Ks{c:Cx}{Γ':Ga}{Δ rest:List D}{S S':FS}{v v1 v':VW}{a':Act}{cf cb:Nat}(hX:∀b,¬c.X b)(h3:bX c.X c.S0 c.w0 S v)(h4:∀b,aS Δ b→c.X b∨c.w0.heap.size≤b)(hO:bo Δ S v)(hr:de v v1)
 (hsub:∀b,aS rest b∨b=cf∨b=cb→aS Δ b) (i1:a'.defers=c.dfs) (i2:a'.tmps.size=c.N) (hE:bX (aS rest) S (ez ⟨v1.toWorld,fun b=>v1.A b∨b=cf∨b=cb,v1.Z⟩) S' (ez v')) (hO':bo rest S' v')
 (hs:∀s r,lk Γ' s=some r→r.holds S' v' (a'.tmps.getD s undef)):St c Γ' rest a' ⟨v'.toWorld,v'.A,c.w0.Z⟩:=by
 have hge:∀b,aS Δ b→c.w0.heap.size≤b:=fun b hb=>(h4 b hb).resolve_left (hX b)
 have hsz:c.w0.heap.size≤v'.heap.size:=Nat.le_trans h3.size (Nat.le_trans hr.size hE.size)
 have hZ:v.Z=c.w0.Z:=h3.Z
 have holdA1:∀b,v1.A b→c.w0.A b∨c.w0.heap.size≤b:=fun b hb=>by
  rcases hr.old b hb with h |h
  ·exact h3.oldA b h
  ·exact .inr (Nat.le_trans h3.size h)
 have holdA:∀b,v'.A b→c.w0.A b∨c.w0.heap.size≤b:=fun b hb=>by
  rcases hE.oldA b hb with(h |h) |h
  ·exact holdA1 b h
  ·exact .inr (hge b (hsub b (.inr h)))
  ·exact .inr (Nat.le_trans (Nat.le_trans h3.size hr.size) h)
 refine⟨i1,i2,S',⟨fun b hb=>hE.sub b (h3.sub b hb),fun b hb=>?_,hE.dom,hsz,fun b hb hA hx=>?_,hE.os.trans (hr.os.trans h3.os),hE.tape.trans (hr.tape.trans h3.tape),hE.output.trans (hr.output.trans h3.output),fun b hb=>hE.subA b (.inl (hr.sub b (h3.subA b hb))),holdA,rfl⟩,fun b hb=>h4 b (hsub b (.inl hb)),⟨hO'.holds,hO'.own,hO'.apart,fun b hb=>⟨(hO'.far b hb).1,fun hz=>?_⟩,hO'.sees,hO'.domA,fun b hb=>?_⟩,hs⟩
 ·
  rcases hE.new b hb with h |h |h
  ·exact h3.new b h
  ·exact .inr (.inl (Nat.le_trans (Nat.le_trans h3.size hr.size) h))
  ·exact .inr (.inl (hge b (hsub b (.inl h))))
 ·
  have k1:v.heap[b]? =c.w0.heap[b]? :=h3.keep b hb hA hx;have nA:¬v.A b:=fun h=>(h3.oldA b h).elim hA fun h=>by omega
  have nA1:¬v1.A b:=fun h=>(holdA1 b h).elim hA fun h=>by omega
  have nf:¬(aS rest b∨b=cf∨b=cb):=fun h=>by have:=hge b (hsub b h);omega
  have k2:v1.heap[b]? =v.heap[b]? :=hr.keep b (by have:=h3.size;omega) nA;have k3:v'.heap[b]? =v1.heap[b]? :=hE.keep b (by have:=h3.size;have:=hr.size;show b < v1.heap.size;omega) (fun h=>h.elim nA1 fun h=>nf (.inr h)) (fun h=>nf (.inl h));exact k3.trans (k2.trans k1)
 ·
  exact(hO.far b (hsub b (.inl hb))).2 (hZ▸hz)
 ·
  have:=hO.domZ b (hZ▸hb);exact Nat.lt_of_lt_of_le this (Nat.le_trans hr.size hE.size)
@[reducible] noncomputable def HK (S:FS) (v:VW):Cx:=⟨Tryz.prog,69,S,v,aS [],none,[],BV Tryz.prog⟩
@[reducible] def uT:Obj:=.chan 0 #[] false 0 0 false
section
variable {k:Nat}{q:fp}{now:Int}{N z1 z2:Nat}{rs:Nat→Int×Bool}{o:Nat→Int}{S0:FS}{w0:VW}{rest:List D}{R8 R13 R14 Rest:Code}{Q:Exit→Act→VW→Prop}{Γ:Ga}
theorem J9{t1 t2 t3 t4 t5 t6 t7 t8:TypeId}{s1 s2 s3 s4 s5 s6 s7 s8:String}{e1 e2 e3 e4 e5 e6 e7 e8:Array Edge}{t:Nat→TypeId}{s:Nat→String}{e:Nat→Array Edge}
 (hN:N≤1000000) (hws:∀i,i < N→bW k q i=some (rs i)) (ho:∀i,i < N→eK k [(i:Int)]=some (o i))
 (h8:JC (HK S0 w0) R8 (yc (HK S0 w0) (ke q now N z1 z2 0) (.raw z1 uT:: .raw z2 uT::rest)) Γ (.raw z1 uT:: .raw z2 uT::rest))
 (h13:∀S v,JC (nZ S v rest) R13 (yc (nZ S v rest) ((12,.eq (.int .u8 0))::ke q now N z1 z2 N) rest) (ke q now N z1 z2 N) rest)
 (h14:∀S v,JC (nZ S v rest) R14 (yc (nZ S v rest) (nh z1 z2 N 0 0) rest) ((12,.eq (.int .u8 0))::ke q now N z1 z2 N) rest)
 (hR:∀rc:List Nat,rc.Perm (List.range N)→JC (HK S0 w0) Rest Q [(12,.eq (.int .u8 (kK rs o now rc)))] rest):
 JC (HK S0 w0) (.seq (.seq R8 (.block 0 (.loop (wG t1 t2 t3 t4 t5 t6 t7 t8 s1 s2 s3 s4 s5 s6 s7 s8 e1 e2 e3 e4 e5 e6 e7 e8)))) (.seq R13 (.seq (.seq R14 (.block 2 (.loop (wF t s e)))) Rest))) Q Γ (.raw z1 uT:: .raw z2 uT::rest):=by
 intro a0 v0 st0 T hT b K cs hb hc
 have bc:BC Tryz.prog T:=hT.1
 refine bc.move (fun _ _=>jT) ?_
 refine bc.move (fun _ _=>jT) ?_
 refine jp (c:=HK S0 w0) (Q:=yc (HK S0 w0) (ke q now N z1 z2 0) (.raw z1 uT:: .raw z2 uT::rest)) hT hb st0 h8 fun x a v st=>?_
 cases x with
 |normal=>
  obtain⟨i1,i2,S,i3,i4,i5,i6⟩:=st;refine hT.2 _ _ _ fun Gd hG v1 hr gs sl tt kq hg0 hq ht hk=>?_;have hap:=List.pairwise_cons.1 i5.apart;have hne:z1≠z2:=fun h=>hap.1 (.raw z2 uT) (List.mem_cons_self ..) z1 rfl (by rw [h];rfl);have f1:aS (.raw z1 uT:: .raw z2 uT::rest) z1:=⟨_,List.mem_cons_self ..,rfl⟩;have f2:aS (.raw z1 uT:: .raw z2 uT::rest) z2:=⟨_,List.mem_cons_of_mem _ (List.mem_cons_self ..),rfl⟩;have fr:∀y,aS rest y→aS (.raw z1 uT:: .raw z2 uT::rest) y:=fun y ⟨d,hd,hy⟩=>⟨d,List.mem_cons_of_mem _ (List.mem_cons_of_mem _ hd),hy⟩
  have hsub:∀y,aS rest y∨y=z1∨y=z2→aS (.raw z1 uT:: .raw z2 uT::rest) y:=fun y h=>by
   rcases h with h |rfl |rfl
   ·exact fr y h
   ·exact f1
   ·exact f2
  have hnx:=hG.next;have hO1:=i5.rely i3.dom hr;have hn0:0 < gs.size:=(Array.getElem?_eq_some_iff.1 hg0).1;obtain⟨sd,hsd⟩:∃sd:Nat→Nat×Value,∀i,i < N→sd (gs.size+i)=(cond (eP (rs i) now) z1 z2,.int .i64 i):=⟨fun j=>(cond (eP (rs (j - gs.size)) now) z1 z2,.int .i64 ((j - gs.size:Nat):Int)),fun i _=>by simp⟩;refine IS (P:=Tryz.prog) (cf:=z1) (cb:=z2) (sd:=sd) hO1.domA hO1.domZ (fun c hcc=>⟨0,?_⟩) hg0 hq ht hk ?_
  ·rcases hcc with rfl |rfl
   ·exact hO1.holds (.raw c uT) (List.mem_cons_self ..)
   ·exact hO1.holds (.raw c uT) (List.mem_cons_of_mem _ (List.mem_cons_self ..))
  ·have bc2:∀n pe,BC Tryz.prog (TC Tryz.prog z1 z2 sd n pe Gd):=fun _ _=>TC.bc hnx;refine(bc2 _ _).move (fun _ _=>rj) ?_;refine(bc2 _ _).move (fun _ _=>Dt) ?_;have e0:(fun _:Nat=>False)=fun j=>gs.size≤j∧j < gs.size+0:=by funext j;simp
   rw [e0]
   have hI0:NI ⟨v1.toWorld,fun y=>v1.A y∨y=z1∨y=z2,v1.Z⟩ S rest (ke q now N z1 z2 ((0:Nat):Int)) a ⟨v1.toWorld,fun y=>v1.A y∨y=z1∨y=z2,v1.Z⟩:=by
    refine⟨S,i1,i2,bX.refl fun y hy=>Nat.lt_of_lt_of_le (i3.dom y hy) hr.size,⟨fun d hd=>hO1.holds d (List.mem_cons_of_mem _ (List.mem_cons_of_mem _ hd)),fun y hy=>hO1.own y (fr y hy),(List.pairwise_cons.1 hap.2).2,fun y hy=>⟨fun h=>?_,(hO1.far y (fr y hy)).2⟩,fun y hy h=>?_,fun y h=>?_,hO1.domZ⟩,fun s r hl=>A.mono (fun _ h=>h) (lQ i3.dom i5.sees hr) r (i6 s r hl)⟩
    ·obtain⟨d,hd,hy⟩:=hy;rcases h with h |rfl |rfl
     ·exact(hO1.far y (fr y ⟨d,hd,hy⟩)).1 h
     ·exact hap.1 d (List.mem_cons_of_mem _ hd) y rfl hy
     ·exact(List.pairwise_cons.1 hap.2).1 d hd y rfl hy
    ·rcases h with h |rfl |rfl
     ·exact hO1.sees y hy h
     ·exact(hO1.own y f1).1 hy
     ·exact(hO1.own y f2).1 hy
    ·rcases h with h |rfl |rfl
     ·exact hO1.domA y h
     ·exact(hO1.own y f1).2
     ·exact(hO1.own y f2).2
   refine yB hnx hN hn0 hws hsd hb (fun a1 w1 hc1 hc2 hI=>?_) N 0 (Nat.zero_add N) a _ (.inr (.inl rfl)) (.inr (.inr rfl)) hI0;obtain⟨S1,st1,back1⟩:=hI.st;refine(bc2 _ _).move (fun _ _=>jT) ?_;refine jp (c:=nZ S1 w1 rest) (Q:=yc (nZ S1 w1 rest) ((12,.eq (.int .u8 0))::ke q now N z1 z2 N) rest) (bc2 _ _) hb st1 (h13 S1 w1) (fun x a2 v2 q2=>?_);cases x with
   |normal=>
    refine(bc2 _ _).move (fun _ _=>jT) ?_;refine(bc2 _ _).move (fun _ _=>jT) ?_;refine jp (c:=nZ S1 w1 rest) (Q:=yc (nZ S1 w1 rest) (nh z1 z2 N 0 0) rest) (bc2 _ _) hb q2 (h14 S1 w1) (fun x a3 v3 q3=>?_);cases x with
    |normal=>
     have hI3:NI _ S rest (nh z1 z2 N 0 0) a3 v3:=back1 _ _ _ q3;obtain⟨_,_,S3,g3,_,_,_⟩:=q3;refine(bc2 _ _).move (fun _ _=>rj) ?_;refine(bc2 _ _).move (fun _ _=>Dt) ?_
     have e1:(fun j:Nat=>gs.size≤j∧j < gs.size+N)=fun j=>gs.size≤j∧(j - gs.size)∈List.range N:=by
      funext j;simp only [List.mem_range,eq_iff_iff];omega
     rw [e1];refine HN hnx hne hN hn0 hsd ho hb (fun a4 v4 rc hrc d1 d2 hI4=>?_) N [] (List.range N) (by simp) (by simp) a3 v3 (g3.subA z1 hc1) (g3.subA z2 hc2) hI3;refine TC.fin (Z0:=w0.Z) hT.1 hG (fun i _ _ h=>by simp at h) ?_;obtain⟨S4,j1,j2,j3,j4,j5⟩:=hI4;refine hR rc hrc a4 _ (Ks (c:=HK S0 w0) (fun y ⟨d,hd,_⟩=>by simp at hd) i3 i4 i5 hr hsub j1 j2 j3 j4 fun s r hl=>j5 s r ?_) T hT b K cs hb hc;simp only [lk] at hl⊢;split at hl
     ·rename_i h12;subst h12;cases hl;rfl
     ·cases hl
    |ret=>exact q3.elim
    |exit id=>exact q3.elim
    |goto l=>exact q3.elim
    |panic ch=>exact q3.elim
    |outgrown=>exact q3.elim
   |ret=>exact q2.elim
   |exit id=>exact q2.elim
   |goto l=>exact q2.elim
   |panic ch=>exact q2.elim
   |outgrown=>exact q2.elim
 |ret=>exact st.elim
 |exit id=>exact st.elim
 |goto l=>exact st.elim
 |panic ch=>exact st.elim
 |outgrown=>exact st.elim
end
end Go.Proofs.YtopgphikdglphaaGreat
set_option linter.unusedVariables false
set_option maxRecDepth 4000
namespace Go.Proofs.YtopgphikdglphaaGreat
open K Go Go.Proofs Go.Conc
theorem HL(x:BitVec 8):BitVec.ofInt 8 (IntKind.u8.wrap x.toNat)=x:=by
 have e:IntKind.u8.wrap (x.toNat:Int)=x.toNat:=by
  have h1:IntKind.u8.wrap (x.toNat:Int)=(x.toNat:Int) % 256:=by simp [IntKind.wrap,IntKind.signed,IntKind.bits]
  have:=x.isLt;rw [h1];omega
 rw [e,BitVec.ofInt_natCast];simp
theorem H3(s a:Int):BitVec.ofInt 8 (nF .u8 s a)=BitVec.ofInt 8 s |||BitVec.ofInt 8 a:=HL _
theorem MZ(s a b:Int):nF .u8 (nF .u8 s a) b=nF .u8 (nF .u8 s b) a:=by
 have h:∀x y:Int,nF .u8 x y=IntKind.u8.wrap ((BitVec.ofInt 8 x |||BitVec.ofInt 8 y).toNat):=fun _ _=>rfl;rw [h (nF .u8 s a),h (nF .u8 s b),H3,H3,BitVec.or_assoc,BitVec.or_assoc,BitVec.or_comm (BitVec.ofInt 8 a)]
theorem Dp{rs:Nat→Int×Bool}{o:Nat→Int}{now:Int}{l l':List Nat}(h:l.Perm l'):kK rs o now l=kK rs o now l':=by
 unfold kK;refine h.foldl_eq' (fun x _ y _ z=>?_) 0;unfold mw;split <;> split <;> first |rfl |exact MZ ..
def yC{α:Type}(d:α)(f:Nat→Option α)(N:Nat):Option (Nat→α):=if(List.range N).all (fun i=>(f i).isSome) then some (fun i=>(f i).getD d) else none
theorem wH{α:Type}{d:α}{f:Nat→Option α}{N:Nat}{g:Nat→α}(h:yC d f N=some g):∀i,i < N→f i=some (g i):=fun i hi=>by
 unfold yC at h
 split at h
 ·
  rename_i ha
  cases h
  have:=List.all_eq_true.1 ha i (List.mem_range.2 hi)
  cases hf:f i with
  |none=>rw [hf] at this;cases this
  |some x=>simp [hf]
 ·
  cases h
def vH(k:Nat)(q:fp)(now:Int):Option (List Int×Int):=
 (yC (0,false) (fun i=>bW k q (i:Int)) q.1.2.1.length).bind fun rs=>
 (yC 0 (fun i=>eK k [(i:Int)]) q.1.2.1.length).bind fun o=>
 if q.1.2.1.length≤1000000 then(eN k (kK rs o now (List.range q.1.2.1.length))).bind fun r=>some (r,0) else none
theorem zD{k:Nat}{q:fp}{now:Int}{r:List Int×Int}(h:vH k q now=some r):∃rs o,q.1.2.1.length≤1000000∧(∀i,i < q.1.2.1.length→bW k q (i:Int)=some (rs i))∧(∀i,i < q.1.2.1.length→eK k [(i:Int)]=some (o i))∧r.2=0∧∀rc:List Nat,rc.Perm (List.range q.1.2.1.length)→eN k (kK rs o now rc)=some r.1:=by
 unfold vH at h;obtain⟨rs,hrs,h⟩:=Option.bind_eq_some_iff.1 h;obtain⟨o,ho,h⟩:=Option.bind_eq_some_iff.1 h;split at h
 ·rename_i hN;obtain⟨x,hx,h⟩:=Option.bind_eq_some_iff.1 h;cases h;exact⟨rs,o,hN,wH hrs,wH ho,rfl,fun rc hrc=>by rw [Dp hrc];exact hx⟩
 ·cases h
theorem MU{α:Type}{x:Option α}{r:α}(h:x.bind some=some r):x=some r:=by
 cases x with
 |none=>cases h
 |some y=>exact h
def tg:Code→List Oper
 | .region _ ops _=>ops.toList
 | .seq x y=>tg x++tg y
 | .block _ x=>tg x
 | .loop x=>tg x
 | .cond _ x y=>tg x++tg y
 |_=>[]
section
variable {k:Nat}{q:fp}{now:Int}{N z1 z2:Nat}{rs:Nat→Int×Bool}{o:Nat→Int}{S0:FS}{w0:VW}{rest:List D}{R8 R13 R14 Rest:Code}{Q:Exit→Act→VW→Prop}{Γ:Ga}
theorem HM{t1 t2 t3 t4 t5 t6 t7 t8:TypeId}{s1 s2 s3 s4 s5 s6 s7 s8:String}{e1 e2 e3 e4 e5 e6 e7 e8:Array Edge}{B2:Code}
 (hB2:B2=wF (fun i=>((tg B2).getD i default).type) (fun i=>((tg B2).getD i default).pos) (fun i=>((tg B2).getD i default).after))
 (hN:N≤1000000) (hws:∀i,i < N→bW k q i=some (rs i)) (ho:∀i,i < N→eK k [(i:Int)]=some (o i))
 (h8:JC (HK S0 w0) R8 (yc (HK S0 w0) (ke q now N z1 z2 0) (.raw z1 uT:: .raw z2 uT::rest)) Γ (.raw z1 uT:: .raw z2 uT::rest))
 (h13:∀S v,JC (nZ S v rest) R13 (yc (nZ S v rest) ((12,.eq (.int .u8 0))::ke q now N z1 z2 N) rest) (ke q now N z1 z2 N) rest)
 (h14:∀S v,JC (nZ S v rest) R14 (yc (nZ S v rest) (nh z1 z2 N 0 0) rest) ((12,.eq (.int .u8 0))::ke q now N z1 z2 N) rest)
 (hR:∀rc:List Nat,rc.Perm (List.range N)→JC (HK S0 w0) Rest Q [(12,.eq (.int .u8 (kK rs o now rc)))] rest):
 JC (HK S0 w0) (.seq (.seq R8 (.block 0 (.loop (wG t1 t2 t3 t4 t5 t6 t7 t8 s1 s2 s3 s4 s5 s6 s7 s8 e1 e2 e3 e4 e5 e6 e7 e8)))) (.seq R13 (.seq (.seq R14 (.block 2 (.loop B2))) Rest))) Q Γ (.raw z1 uT:: .raw z2 uT::rest):=by
 rw [hB2]
 exact J9 hN hws ho h8 h13 h14 hR
end
end Go.Proofs.YtopgphikdglphaaGreat
set_option linter.unusedVariables false
set_option maxRecDepth 4000
set_option maxHeartbeats 1000000
namespace Go.Proofs.YtopgphikdglphaaGreat
open K Go Go.Proofs Go.Conc
def iS(k:Nat)(a0:ae):Option ((List Int)×Int):=
 (bM k a0).bind fun r2=>
 jE r2.1 (if¬(r2.2=(0:Int)) then(some ([],r2.2)) else(none)) (fun q3=>if¬(r2.2=(0:Int)) then(some ([],r2.2)) else((f6 k ((q3.1.1,q3.1.2.1,q3.1.2.2.1,q3.1.2.2.2),q3.2.1,q3.2.2)).bind fun r8=>
 if¬(r8.2.2=true) then(some ([],(11:Int))) else(vH k ((q3.1.1,q3.1.2.1,q3.1.2.2.1,q3.1.2.2.2),q3.2.1,q3.2.2,()) r8.2.1)))
theorem vz(k:Nat)(a0:ae)(r:(List Int)×Int)(h:iS k a0=some r):
 kE (BV Tryz.prog) 9 [.rep ag a0] [] (fun _:Unit=>(bG [Ri r.1,I r.2],[])):=by
 unfold iS at h
 replace h:=bi h
 refine kE.of 69 Tryz.func9 rfl Tryz.ntmps9 rfl fun S w0=>?_
 refine sr ?_
 refine bx fun b1=>?_
 refine cq ?_
 refine cq ?_
 refine nt ?_
 refine sr ?_
 refine lo bL ?_
 obtain⟨r2,er2,h⟩:=aa h
 have cr2:=gz k a0 r2 er2
 rcases hr:r2.1 with _ |q3
 ·
  rw [hr] at h cr2;replace h:=xj h;refine be (Δ:=[]) (F:=_) (fun _ _ _=>az rfl _) rfl rfl (ak [.tmp 15] rfl rfl rI rfl cr2) ⟨rfl,trivial⟩ fun _=>?_;refine mq ?_;refine xr ?_;refine xr ?_;refine aA rfl rfl rfl (aF rfl NL Oz) trivial fun b4=>?_;refine aK rfl rfl (aE rfl ie rfl rfl rfl) ⟨rfl,rfl,trivial⟩ ?_;refine aq (nt (aj (sr ?_)));refine mq ?_;refine jb (bT rfl) ?_;refine nt (cn h (fun h=>?_) (fun h=>?_))
  ·refine sr (mq ?_);refine cq ?_;refine aq (nt (rx ?_));refine bC (fY (t:=(.slice (.int .i64))) (x:=[]) 2 rfl .nil rfl rfl) ?_;cases h;exact rb
  ·refine sk (aj (i8 ?_));refine fy 0 rfl rfl rfl rfl (ai rfl ie dF rfl) ⟨rfl,trivial⟩ ?_;cases h
 ·
  rw [hr] at h cr2;replace h:=xi h;refine be (Δ:=[]) (F:=_) (fun _ _ _=>az rfl _) rfl rfl (ak [.tmp 15] rfl rfl rI rfl cr2) ⟨rfl,trivial⟩ fun z5=>?_;refine mq ?_;refine xr ?_;refine xr ?_;refine aA rfl rfl rfl (aF rfl NL Oz) trivial fun b6=>?_;refine aK rfl rfl (aE rfl ie rfl rfl rfl) ⟨rfl,rfl,trivial⟩ ?_;refine aq (nt (aj (sr ?_)));refine mq ?_;refine jb (bT rfl) ?_;refine nt (cn h (fun h=>?_) (fun h=>?_))
  ·refine sr (mq ?_);refine cq ?_;refine aq (nt (rx ?_));refine bC (fY (t:=(.slice (.int .i64))) (x:=[]) 2 rfl .nil rfl rfl) ?_;cases h;exact rb
  ·refine sk (aj ?_);obtain⟨r8,er8,h⟩:=aa h;refine eL (SE.fin (Γ':=[(4,Pt b6)]) (Δ':=[.obj b6 65 (.eq (.pointer (some ⟨z5.1,0,none⟩))),.obj z5.1 80 (Qq q3 (.eq (.map (some z5.2)))),.raw z5.2 (.map #[] 0),.obj b1 26 (.rep ag a0)]) [0,1,2,3] ⟨rfl,trivial⟩ rfl) ?_;refine BZ (I:=Nat×Nat) (Ge:=fun i=>[(4,Pt b6),(7,.eq (.pointer (some ⟨i.2,0,none⟩))),(8,.eq (.bool r8.2.2))]) (De:=fun i=>[.obj b1 26 (.rep ag a0),.inv z5.2 (bJ k ((q3.1.1,q3.1.2.1,q3.1.2.2.1,q3.1.2.2.2),q3.2.1,q3.2.2)),.obj z5.1 80 (Qq q3 (.eq (.map (some z5.2)))),.obj b6 65 (.eq (.pointer (some ⟨z5.1,0,none⟩))),.obj i.1 65 (.eq (.pointer (some ⟨z5.1,0,none⟩))),.obj i.2 3 (I r8.2.1)]) (L:=[true,true,true,true,true,true,true,true,true,true,true,true,true]) bw rfl (fun J hJ hE=>?_) (by kernel_rfl) ?_
   ·have s4095:∀(b7 b9:Nat),J 1 [true,true,true,true,true,true,true,true,true,true,true,true,false] [(4,Pt b6),(7,Pt b9),(30,.eq (.bool r8.2.2))] [.obj b1 26 (.rep ag a0),.inv z5.2 (bJ k ((q3.1.1,q3.1.2.1,q3.1.2.2.1,q3.1.2.2.2),q3.2.1,q3.2.2)),.obj z5.1 80 (Qq q3 (.eq (.map (some z5.2)))),.obj b6 65 (.eq (.pointer (some ⟨z5.1,0,none⟩))),.obj b7 65 (.eq (.pointer (some ⟨z5.1,0,none⟩))),.obj b9 3 (I r8.2.1)]:=fun b7 b9=>by
     subst hJ;refine JD.step [12] (by kernel_rfl) rfl ?_;refine ee.cons rfl ?_ ?_
     ·refine aq ?_;exact aQ (hE ⟨b7,b9⟩) [0,1,2,3,4,5] ⟨rfl,rfl,rfl,trivial⟩
     exact trivial
    have s2047:∀(b7 b9:Nat),J 2 [true,true,true,true,true,true,true,true,true,true,true,false,false] [(4,Pt b6),(7,Pt b9),(29,I r8.2.1),(30,.eq (.bool r8.2.2))] [.obj b1 26 (.rep ag a0),.inv z5.2 (bJ k ((q3.1.1,q3.1.2.1,q3.1.2.2.1,q3.1.2.2.2),q3.2.1,q3.2.2)),.obj z5.1 80 (Qq q3 (.eq (.map (some z5.2)))),.obj b6 65 (.eq (.pointer (some ⟨z5.1,0,none⟩))),.obj b7 65 (.eq (.pointer (some ⟨z5.1,0,none⟩))),.obj b9 3 (I (0:Int))]:=fun b7 b9=>by
     subst hJ;refine JD.step [11] (by kernel_rfl) rfl ?_;refine ee.cons rfl ?_ ?_
     ·refine fr 5 ?_;refine aK rfl rfl (aE rfl cj rfl rfl rfl) ⟨rfl,rfl,trivial⟩ ?_;exact aQ (s4095 b7 b9) [1,2,3,4,5,0] ⟨rfl,rfl,rfl,trivial⟩
     exact trivial
    have s3839:∀(b7 b9:Nat),J 2 [true,true,true,true,true,true,true,true,false,true,true,true,false] [(4,Pt b6),(7,Pt b9),(22,.tup (.pair (Rs aB r8.1) (.pair (I r8.2.1) (.pair (.eq (.bool r8.2.2)) (.any)))))] [.obj b1 26 (.rep ag a0),.inv z5.2 (bJ k ((q3.1.1,q3.1.2.1,q3.1.2.2.1,q3.1.2.2.2),q3.2.1,q3.2.2)),.obj z5.1 80 (Qq q3 (.eq (.map (some z5.2)))),.obj b6 65 (.eq (.pointer (some ⟨z5.1,0,none⟩))),.obj b7 65 (.eq (.pointer (some ⟨z5.1,0,none⟩))),.obj b9 3 (I r8.2.1)]:=fun b7 b9=>by
     subst hJ;refine JD.step [8] (by kernel_rfl) rfl ?_;refine ee.cons rfl ?_ ?_
     ·refine xr ?_;exact aQ (s4095 b7 b9) [0,1,2,3,4,5] ⟨rfl,rfl,rfl,trivial⟩
     exact trivial
    have s1023:∀(b7 b9:Nat),J 3 [true,true,true,true,true,true,true,true,true,true,false,false,false] [(4,Pt b6),(7,Pt b9),(28,Rs aB r8.1),(29,I r8.2.1),(30,.eq (.bool r8.2.2))] [.obj b1 26 (.rep ag a0),.inv z5.2 (bJ k ((q3.1.1,q3.1.2.1,q3.1.2.2.1,q3.1.2.2.2),q3.2.1,q3.2.2)),.obj z5.1 80 (Qq q3 (.eq (.map (some z5.2)))),.obj b6 65 (.eq (.pointer (some ⟨z5.1,0,none⟩))),.obj b7 65 (.eq (.pointer (some ⟨z5.1,0,none⟩))),.obj b9 3 (I (0:Int))]:=fun b7 b9=>by
     subst hJ;refine JD.step [10] (by kernel_rfl) rfl ?_;refine ee.cons rfl ?_ ?_
     ·refine aq ?_;exact aQ (s2047 b7 b9) [0,1,2,3,4,5] ⟨rfl,rfl,rfl,rfl,trivial⟩
     exact trivial
    have s1791:∀(b7 b9:Nat),J 3 [true,true,true,true,true,true,true,true,false,true,true,false,false] [(4,Pt b6),(7,Pt b9),(22,.tup (.pair (Rs aB r8.1) (.pair (I r8.2.1) (.pair (.eq (.bool r8.2.2)) (.any))))),(29,I r8.2.1)] [.obj b1 26 (.rep ag a0),.inv z5.2 (bJ k ((q3.1.1,q3.1.2.1,q3.1.2.2.1,q3.1.2.2.2),q3.2.1,q3.2.2)),.obj z5.1 80 (Qq q3 (.eq (.map (some z5.2)))),.obj b6 65 (.eq (.pointer (some ⟨z5.1,0,none⟩))),.obj b7 65 (.eq (.pointer (some ⟨z5.1,0,none⟩))),.obj b9 3 (I (0:Int))]:=fun b7 b9=>by
     subst hJ;refine JD.step [8,11] (by kernel_rfl) rfl ?_;refine ee.cons rfl ?_ ?_
     ·refine xr ?_;exact aQ (s2047 b7 b9) [0,1,2,3,4,5] ⟨rfl,rfl,rfl,rfl,trivial⟩
     refine ee.cons rfl ?_ ?_
     ·refine fr 5 ?_;refine aK rfl rfl (aE rfl cj rfl rfl rfl) ⟨rfl,rfl,trivial⟩ ?_;exact aQ (s3839 b7 b9) [1,2,3,4,5,0] ⟨rfl,rfl,rfl,trivial⟩
     exact trivial
    have s1919:∀(b7 b9:Nat),J 3 [true,true,true,true,true,true,true,false,true,true,true,false,false] [(4,Pt b6),(7,Pt b9),(22,.tup (.pair (Rs aB r8.1) (.pair (I r8.2.1) (.pair (.eq (.bool r8.2.2)) (.any))))),(30,.eq (.bool r8.2.2))] [.obj b1 26 (.rep ag a0),.inv z5.2 (bJ k ((q3.1.1,q3.1.2.1,q3.1.2.2.1,q3.1.2.2.2),q3.2.1,q3.2.2)),.obj z5.1 80 (Qq q3 (.eq (.map (some z5.2)))),.obj b6 65 (.eq (.pointer (some ⟨z5.1,0,none⟩))),.obj b7 65 (.eq (.pointer (some ⟨z5.1,0,none⟩))),.obj b9 3 (I (0:Int))]:=fun b7 b9=>by
     subst hJ;refine JD.step [7] (by kernel_rfl) rfl ?_;refine ee.cons rfl ?_ ?_
     ·refine xr ?_;exact aQ (s2047 b7 b9) [0,1,2,3,4,5] ⟨rfl,rfl,rfl,rfl,trivial⟩
     exact trivial
    have s511:∀(b7:Nat),J 4 [true,true,true,true,true,true,true,true,true,false,false,false,false] [(4,Pt b6),(28,Rs aB r8.1),(29,I r8.2.1),(30,.eq (.bool r8.2.2))] [.obj b1 26 (.rep ag a0),.inv z5.2 (bJ k ((q3.1.1,q3.1.2.1,q3.1.2.2.1,q3.1.2.2.2),q3.2.1,q3.2.2)),.obj z5.1 80 (Qq q3 (.eq (.map (some z5.2)))),.obj b6 65 (.eq (.pointer (some ⟨z5.1,0,none⟩))),.obj b7 65 (.eq (.pointer (some ⟨z5.1,0,none⟩)))]:=fun b7=>by
     subst hJ;refine JD.step [9] (by kernel_rfl) rfl ?_;refine ee.cons rfl ?_ ?_
     ·refine aA rfl rfl rfl (aF rfl ym yX) trivial fun b9=>?_;exact aQ (s1023 b7 b9) [1,2,3,4,5,0] ⟨rfl,rfl,rfl,rfl,rfl,trivial⟩
     exact trivial
    have s767:∀(b7 b9:Nat),J 4 [true,true,true,true,true,true,true,true,false,true,false,false,false] [(4,Pt b6),(7,Pt b9),(22,.tup (.pair (Rs aB r8.1) (.pair (I r8.2.1) (.pair (.eq (.bool r8.2.2)) (.any))))),(28,Rs aB r8.1),(29,I r8.2.1)] [.obj b1 26 (.rep ag a0),.inv z5.2 (bJ k ((q3.1.1,q3.1.2.1,q3.1.2.2.1,q3.1.2.2.2),q3.2.1,q3.2.2)),.obj z5.1 80 (Qq q3 (.eq (.map (some z5.2)))),.obj b6 65 (.eq (.pointer (some ⟨z5.1,0,none⟩))),.obj b7 65 (.eq (.pointer (some ⟨z5.1,0,none⟩))),.obj b9 3 (I (0:Int))]:=fun b7 b9=>by
     subst hJ;refine JD.step [8,10] (by kernel_rfl) rfl ?_;refine ee.cons rfl ?_ ?_
     ·refine xr ?_;exact aQ (s1023 b7 b9) [0,1,2,3,4,5] ⟨rfl,rfl,rfl,rfl,rfl,trivial⟩
     refine ee.cons rfl ?_ ?_
     ·refine aq ?_;exact aQ (s1791 b7 b9) [0,1,2,3,4,5] ⟨rfl,rfl,rfl,rfl,trivial⟩
     exact trivial
    have s895:∀(b7 b9:Nat),J 4 [true,true,true,true,true,true,true,false,true,true,false,false,false] [(4,Pt b6),(7,Pt b9),(22,.tup (.pair (Rs aB r8.1) (.pair (I r8.2.1) (.pair (.eq (.bool r8.2.2)) (.any))))),(28,Rs aB r8.1),(30,.eq (.bool r8.2.2))] [.obj b1 26 (.rep ag a0),.inv z5.2 (bJ k ((q3.1.1,q3.1.2.1,q3.1.2.2.1,q3.1.2.2.2),q3.2.1,q3.2.2)),.obj z5.1 80 (Qq q3 (.eq (.map (some z5.2)))),.obj b6 65 (.eq (.pointer (some ⟨z5.1,0,none⟩))),.obj b7 65 (.eq (.pointer (some ⟨z5.1,0,none⟩))),.obj b9 3 (I (0:Int))]:=fun b7 b9=>by
     subst hJ;refine JD.step [7,10] (by kernel_rfl) rfl ?_;refine ee.cons rfl ?_ ?_
     ·refine xr ?_;exact aQ (s1023 b7 b9) [0,1,2,3,4,5] ⟨rfl,rfl,rfl,rfl,rfl,trivial⟩
     refine ee.cons rfl ?_ ?_
     ·refine aq ?_;exact aQ (s1919 b7 b9) [0,1,2,3,4,5] ⟨rfl,rfl,rfl,rfl,trivial⟩
     exact trivial
    have s1663:∀(b7 b9:Nat),J 4 [true,true,true,true,true,true,true,false,false,true,true,false,false] [(4,Pt b6),(7,Pt b9),(22,.tup (.pair (Rs aB r8.1) (.pair (I r8.2.1) (.pair (.eq (.bool r8.2.2)) (.any)))))] [.obj b1 26 (.rep ag a0),.inv z5.2 (bJ k ((q3.1.1,q3.1.2.1,q3.1.2.2.1,q3.1.2.2.2),q3.2.1,q3.2.2)),.obj z5.1 80 (Qq q3 (.eq (.map (some z5.2)))),.obj b6 65 (.eq (.pointer (some ⟨z5.1,0,none⟩))),.obj b7 65 (.eq (.pointer (some ⟨z5.1,0,none⟩))),.obj b9 3 (I (0:Int))]:=fun b7 b9=>by
     subst hJ;refine JD.step [7,8] (by kernel_rfl) rfl ?_;refine ee.cons rfl ?_ ?_
     ·refine xr ?_;exact aQ (s1791 b7 b9) [0,1,2,3,4,5] ⟨rfl,rfl,rfl,rfl,trivial⟩
     refine ee.cons rfl ?_ ?_
     ·refine xr ?_;exact aQ (s1919 b7 b9) [0,1,2,3,4,5] ⟨rfl,rfl,rfl,rfl,trivial⟩
     exact trivial
    have s959:∀(b7 b9:Nat),J 4 [true,true,true,true,true,true,false,true,true,true,false,false,false] [(4,Pt b6),(7,Pt b9),(22,.tup (.pair (Rs aB r8.1) (.pair (I r8.2.1) (.pair (.eq (.bool r8.2.2)) (.any))))),(29,I r8.2.1),(30,.eq (.bool r8.2.2))] [.obj b1 26 (.rep ag a0),.inv z5.2 (bJ k ((q3.1.1,q3.1.2.1,q3.1.2.2.1,q3.1.2.2.2),q3.2.1,q3.2.2)),.obj z5.1 80 (Qq q3 (.eq (.map (some z5.2)))),.obj b6 65 (.eq (.pointer (some ⟨z5.1,0,none⟩))),.obj b7 65 (.eq (.pointer (some ⟨z5.1,0,none⟩))),.obj b9 3 (I (0:Int))]:=fun b7 b9=>by
     subst hJ;refine JD.step [6] (by kernel_rfl) rfl ?_;refine ee.cons rfl ?_ ?_
     ·refine xr ?_;exact aQ (s1023 b7 b9) [0,1,2,3,4,5] ⟨rfl,rfl,rfl,rfl,rfl,trivial⟩
     exact trivial
    have s255:∀(b7:Nat),J 5 [true,true,true,true,true,true,true,true,false,false,false,false,false] [(4,Pt b6),(22,.tup (.pair (Rs aB r8.1) (.pair (I r8.2.1) (.pair (.eq (.bool r8.2.2)) (.any))))),(28,Rs aB r8.1),(29,I r8.2.1)] [.obj b1 26 (.rep ag a0),.inv z5.2 (bJ k ((q3.1.1,q3.1.2.1,q3.1.2.2.1,q3.1.2.2.2),q3.2.1,q3.2.2)),.obj z5.1 80 (Qq q3 (.eq (.map (some z5.2)))),.obj b6 65 (.eq (.pointer (some ⟨z5.1,0,none⟩))),.obj b7 65 (.eq (.pointer (some ⟨z5.1,0,none⟩)))]:=fun b7=>by
     subst hJ;refine JD.step [8,9] (by kernel_rfl) rfl ?_;refine ee.cons rfl ?_ ?_
     ·refine xr ?_;exact aQ (s511 b7) [0,1,2,3,4] ⟨rfl,rfl,rfl,rfl,trivial⟩
     refine ee.cons rfl ?_ ?_
     ·refine aA rfl rfl rfl (aF rfl ym yX) trivial fun b9=>?_;exact aQ (s767 b7 b9) [1,2,3,4,5,0] ⟨rfl,rfl,rfl,rfl,rfl,trivial⟩
     exact trivial
    have s383:∀(b7:Nat),J 5 [true,true,true,true,true,true,true,false,true,false,false,false,false] [(4,Pt b6),(22,.tup (.pair (Rs aB r8.1) (.pair (I r8.2.1) (.pair (.eq (.bool r8.2.2)) (.any))))),(28,Rs aB r8.1),(30,.eq (.bool r8.2.2))] [.obj b1 26 (.rep ag a0),.inv z5.2 (bJ k ((q3.1.1,q3.1.2.1,q3.1.2.2.1,q3.1.2.2.2),q3.2.1,q3.2.2)),.obj z5.1 80 (Qq q3 (.eq (.map (some z5.2)))),.obj b6 65 (.eq (.pointer (some ⟨z5.1,0,none⟩))),.obj b7 65 (.eq (.pointer (some ⟨z5.1,0,none⟩)))]:=fun b7=>by
     subst hJ;refine JD.step [7,9] (by kernel_rfl) rfl ?_;refine ee.cons rfl ?_ ?_
     ·refine xr ?_;exact aQ (s511 b7) [0,1,2,3,4] ⟨rfl,rfl,rfl,rfl,trivial⟩
     refine ee.cons rfl ?_ ?_
     ·refine aA rfl rfl rfl (aF rfl ym yX) trivial fun b9=>?_;exact aQ (s895 b7 b9) [1,2,3,4,5,0] ⟨rfl,rfl,rfl,rfl,rfl,trivial⟩
     exact trivial
    have s639:∀(b7 b9:Nat),J 5 [true,true,true,true,true,true,true,false,false,true,false,false,false] [(4,Pt b6),(7,Pt b9),(22,.tup (.pair (Rs aB r8.1) (.pair (I r8.2.1) (.pair (.eq (.bool r8.2.2)) (.any))))),(28,Rs aB r8.1)] [.obj b1 26 (.rep ag a0),.inv z5.2 (bJ k ((q3.1.1,q3.1.2.1,q3.1.2.2.1,q3.1.2.2.2),q3.2.1,q3.2.2)),.obj z5.1 80 (Qq q3 (.eq (.map (some z5.2)))),.obj b6 65 (.eq (.pointer (some ⟨z5.1,0,none⟩))),.obj b7 65 (.eq (.pointer (some ⟨z5.1,0,none⟩))),.obj b9 3 (I (0:Int))]:=fun b7 b9=>by
     subst hJ;refine JD.step [7,8,10] (by kernel_rfl) rfl ?_;refine ee.cons rfl ?_ ?_
     ·refine xr ?_;exact aQ (s767 b7 b9) [0,1,2,3,4,5] ⟨rfl,rfl,rfl,rfl,rfl,trivial⟩
     refine ee.cons rfl ?_ ?_
     ·refine xr ?_;exact aQ (s895 b7 b9) [0,1,2,3,4,5] ⟨rfl,rfl,rfl,rfl,rfl,trivial⟩
     refine ee.cons rfl ?_ ?_
     ·refine aq ?_;exact aQ (s1663 b7 b9) [0,1,2,3,4,5] ⟨rfl,rfl,rfl,trivial⟩
     exact trivial
    have s447:∀(b7:Nat),J 5 [true,true,true,true,true,true,false,true,true,false,false,false,false] [(4,Pt b6),(22,.tup (.pair (Rs aB r8.1) (.pair (I r8.2.1) (.pair (.eq (.bool r8.2.2)) (.any))))),(29,I r8.2.1),(30,.eq (.bool r8.2.2))] [.obj b1 26 (.rep ag a0),.inv z5.2 (bJ k ((q3.1.1,q3.1.2.1,q3.1.2.2.1,q3.1.2.2.2),q3.2.1,q3.2.2)),.obj z5.1 80 (Qq q3 (.eq (.map (some z5.2)))),.obj b6 65 (.eq (.pointer (some ⟨z5.1,0,none⟩))),.obj b7 65 (.eq (.pointer (some ⟨z5.1,0,none⟩)))]:=fun b7=>by
     subst hJ;refine JD.step [6,9] (by kernel_rfl) rfl ?_;refine ee.cons rfl ?_ ?_
     ·refine xr ?_;exact aQ (s511 b7) [0,1,2,3,4] ⟨rfl,rfl,rfl,rfl,trivial⟩
     refine ee.cons rfl ?_ ?_
     ·refine aA rfl rfl rfl (aF rfl ym yX) trivial fun b9=>?_;exact aQ (s959 b7 b9) [1,2,3,4,5,0] ⟨rfl,rfl,rfl,rfl,rfl,trivial⟩
     exact trivial
    have s703:∀(b7 b9:Nat),J 5 [true,true,true,true,true,true,false,true,false,true,false,false,false] [(4,Pt b6),(7,Pt b9),(22,.tup (.pair (Rs aB r8.1) (.pair (I r8.2.1) (.pair (.eq (.bool r8.2.2)) (.any))))),(29,I r8.2.1)] [.obj b1 26 (.rep ag a0),.inv z5.2 (bJ k ((q3.1.1,q3.1.2.1,q3.1.2.2.1,q3.1.2.2.2),q3.2.1,q3.2.2)),.obj z5.1 80 (Qq q3 (.eq (.map (some z5.2)))),.obj b6 65 (.eq (.pointer (some ⟨z5.1,0,none⟩))),.obj b7 65 (.eq (.pointer (some ⟨z5.1,0,none⟩))),.obj b9 3 (I (0:Int))]:=fun b7 b9=>by
     subst hJ;refine JD.step [6,8] (by kernel_rfl) rfl ?_;refine ee.cons rfl ?_ ?_
     ·refine xr ?_;exact aQ (s767 b7 b9) [0,1,2,3,4,5] ⟨rfl,rfl,rfl,rfl,rfl,trivial⟩
     refine ee.cons rfl ?_ ?_
     ·refine xr ?_;exact aQ (s959 b7 b9) [0,1,2,3,4,5] ⟨rfl,rfl,rfl,rfl,rfl,trivial⟩
     exact trivial
    have s831:∀(b7 b9:Nat),J 5 [true,true,true,true,true,true,false,false,true,true,false,false,false] [(4,Pt b6),(7,Pt b9),(22,.tup (.pair (Rs aB r8.1) (.pair (I r8.2.1) (.pair (.eq (.bool r8.2.2)) (.any))))),(30,.eq (.bool r8.2.2))] [.obj b1 26 (.rep ag a0),.inv z5.2 (bJ k ((q3.1.1,q3.1.2.1,q3.1.2.2.1,q3.1.2.2.2),q3.2.1,q3.2.2)),.obj z5.1 80 (Qq q3 (.eq (.map (some z5.2)))),.obj b6 65 (.eq (.pointer (some ⟨z5.1,0,none⟩))),.obj b7 65 (.eq (.pointer (some ⟨z5.1,0,none⟩))),.obj b9 3 (I (0:Int))]:=fun b7 b9=>by
     subst hJ;refine JD.step [6,7] (by kernel_rfl) rfl ?_;refine ee.cons rfl ?_ ?_
     ·refine xr ?_;exact aQ (s895 b7 b9) [0,1,2,3,4,5] ⟨rfl,rfl,rfl,rfl,rfl,trivial⟩
     refine ee.cons rfl ?_ ?_
     ·refine xr ?_;exact aQ (s959 b7 b9) [0,1,2,3,4,5] ⟨rfl,rfl,rfl,rfl,rfl,trivial⟩
     exact trivial
    have s127:∀(b7:Nat),J 6 [true,true,true,true,true,true,true,false,false,false,false,false,false] [(4,Pt b6),(22,.tup (.pair (Rs aB r8.1) (.pair (I r8.2.1) (.pair (.eq (.bool r8.2.2)) (.any))))),(28,Rs aB r8.1)] [.obj b1 26 (.rep ag a0),.inv z5.2 (bJ k ((q3.1.1,q3.1.2.1,q3.1.2.2.1,q3.1.2.2.2),q3.2.1,q3.2.2)),.obj z5.1 80 (Qq q3 (.eq (.map (some z5.2)))),.obj b6 65 (.eq (.pointer (some ⟨z5.1,0,none⟩))),.obj b7 65 (.eq (.pointer (some ⟨z5.1,0,none⟩)))]:=fun b7=>by
     subst hJ;refine JD.step [7,8,9] (by kernel_rfl) rfl ?_;refine ee.cons rfl ?_ ?_
     ·refine xr ?_;exact aQ (s255 b7) [0,1,2,3,4] ⟨rfl,rfl,rfl,rfl,trivial⟩
     refine ee.cons rfl ?_ ?_
     ·refine xr ?_;exact aQ (s383 b7) [0,1,2,3,4] ⟨rfl,rfl,rfl,rfl,trivial⟩
     refine ee.cons rfl ?_ ?_
     ·refine aA rfl rfl rfl (aF rfl ym yX) trivial fun b9=>?_;exact aQ (s639 b7 b9) [1,2,3,4,5,0] ⟨rfl,rfl,rfl,rfl,trivial⟩
     exact trivial
    have s191:∀(b7:Nat),J 6 [true,true,true,true,true,true,false,true,false,false,false,false,false] [(4,Pt b6),(22,.tup (.pair (Rs aB r8.1) (.pair (I r8.2.1) (.pair (.eq (.bool r8.2.2)) (.any))))),(29,I r8.2.1)] [.obj b1 26 (.rep ag a0),.inv z5.2 (bJ k ((q3.1.1,q3.1.2.1,q3.1.2.2.1,q3.1.2.2.2),q3.2.1,q3.2.2)),.obj z5.1 80 (Qq q3 (.eq (.map (some z5.2)))),.obj b6 65 (.eq (.pointer (some ⟨z5.1,0,none⟩))),.obj b7 65 (.eq (.pointer (some ⟨z5.1,0,none⟩)))]:=fun b7=>by
     subst hJ;refine JD.step [6,8,9] (by kernel_rfl) rfl ?_;refine ee.cons rfl ?_ ?_
     ·refine xr ?_;exact aQ (s255 b7) [0,1,2,3,4] ⟨rfl,rfl,rfl,rfl,trivial⟩
     refine ee.cons rfl ?_ ?_
     ·refine xr ?_;exact aQ (s447 b7) [0,1,2,3,4] ⟨rfl,rfl,rfl,rfl,trivial⟩
     refine ee.cons rfl ?_ ?_
     ·refine aA rfl rfl rfl (aF rfl ym yX) trivial fun b9=>?_;exact aQ (s703 b7 b9) [1,2,3,4,5,0] ⟨rfl,rfl,rfl,rfl,trivial⟩
     exact trivial
    have s319:∀(b7:Nat),J 6 [true,true,true,true,true,true,false,false,true,false,false,false,false] [(4,Pt b6),(22,.tup (.pair (Rs aB r8.1) (.pair (I r8.2.1) (.pair (.eq (.bool r8.2.2)) (.any))))),(30,.eq (.bool r8.2.2))] [.obj b1 26 (.rep ag a0),.inv z5.2 (bJ k ((q3.1.1,q3.1.2.1,q3.1.2.2.1,q3.1.2.2.2),q3.2.1,q3.2.2)),.obj z5.1 80 (Qq q3 (.eq (.map (some z5.2)))),.obj b6 65 (.eq (.pointer (some ⟨z5.1,0,none⟩))),.obj b7 65 (.eq (.pointer (some ⟨z5.1,0,none⟩)))]:=fun b7=>by
     subst hJ;refine JD.step [6,7,9] (by kernel_rfl) rfl ?_;refine ee.cons rfl ?_ ?_
     ·refine xr ?_;exact aQ (s383 b7) [0,1,2,3,4] ⟨rfl,rfl,rfl,rfl,trivial⟩
     refine ee.cons rfl ?_ ?_
     ·refine xr ?_;exact aQ (s447 b7) [0,1,2,3,4] ⟨rfl,rfl,rfl,rfl,trivial⟩
     refine ee.cons rfl ?_ ?_
     ·refine aA rfl rfl rfl (aF rfl ym yX) trivial fun b9=>?_;exact aQ (s831 b7 b9) [1,2,3,4,5,0] ⟨rfl,rfl,rfl,rfl,trivial⟩
     exact trivial
    have s575:∀(b7 b9:Nat),J 6 [true,true,true,true,true,true,false,false,false,true,false,false,false] [(4,Pt b6),(7,Pt b9),(22,.tup (.pair (Rs aB r8.1) (.pair (I r8.2.1) (.pair (.eq (.bool r8.2.2)) (.any)))))] [.obj b1 26 (.rep ag a0),.inv z5.2 (bJ k ((q3.1.1,q3.1.2.1,q3.1.2.2.1,q3.1.2.2.2),q3.2.1,q3.2.2)),.obj z5.1 80 (Qq q3 (.eq (.map (some z5.2)))),.obj b6 65 (.eq (.pointer (some ⟨z5.1,0,none⟩))),.obj b7 65 (.eq (.pointer (some ⟨z5.1,0,none⟩))),.obj b9 3 (I (0:Int))]:=fun b7 b9=>by
     subst hJ;refine JD.step [6,7,8] (by kernel_rfl) rfl ?_;refine ee.cons rfl ?_ ?_
     ·refine xr ?_;exact aQ (s639 b7 b9) [0,1,2,3,4,5] ⟨rfl,rfl,rfl,rfl,trivial⟩
     refine ee.cons rfl ?_ ?_
     ·refine xr ?_;exact aQ (s703 b7 b9) [0,1,2,3,4,5] ⟨rfl,rfl,rfl,rfl,trivial⟩
     refine ee.cons rfl ?_ ?_
     ·refine xr ?_;exact aQ (s831 b7 b9) [0,1,2,3,4,5] ⟨rfl,rfl,rfl,rfl,trivial⟩
     exact trivial
    have s63:∀(b7:Nat),J 7 [true,true,true,true,true,true,false,false,false,false,false,false,false] [(4,Pt b6),(22,.tup (.pair (Rs aB r8.1) (.pair (I r8.2.1) (.pair (.eq (.bool r8.2.2)) (.any)))))] [.obj b1 26 (.rep ag a0),.inv z5.2 (bJ k ((q3.1.1,q3.1.2.1,q3.1.2.2.1,q3.1.2.2.2),q3.2.1,q3.2.2)),.obj z5.1 80 (Qq q3 (.eq (.map (some z5.2)))),.obj b6 65 (.eq (.pointer (some ⟨z5.1,0,none⟩))),.obj b7 65 (.eq (.pointer (some ⟨z5.1,0,none⟩)))]:=fun b7=>by
     subst hJ;refine JD.step [6,7,8,9] (by kernel_rfl) rfl ?_;refine ee.cons rfl ?_ ?_
     ·refine xr ?_;exact aQ (s127 b7) [0,1,2,3,4] ⟨rfl,rfl,rfl,trivial⟩
     refine ee.cons rfl ?_ ?_
     ·refine xr ?_;exact aQ (s191 b7) [0,1,2,3,4] ⟨rfl,rfl,rfl,trivial⟩
     refine ee.cons rfl ?_ ?_
     ·refine xr ?_;exact aQ (s319 b7) [0,1,2,3,4] ⟨rfl,rfl,rfl,trivial⟩
     refine ee.cons rfl ?_ ?_
     ·refine aA rfl rfl rfl (aF rfl ym yX) trivial fun b9=>?_;exact aQ (s575 b7 b9) [1,2,3,4,5,0] ⟨rfl,rfl,rfl,trivial⟩
     exact trivial
    have s543:∀(b7 b9:Nat),J 7 [true,true,true,true,true,false,false,false,false,true,false,false,false] [(4,Pt b6),(7,Pt b9),(27,.tup (.pair (Rs aB r8.1) (.pair (I r8.2.1) (.pair (.eq (.bool r8.2.2)) (.any)))))] [.obj b1 26 (.rep ag a0),.inv z5.2 (bJ k ((q3.1.1,q3.1.2.1,q3.1.2.2.1,q3.1.2.2.2),q3.2.1,q3.2.2)),.obj z5.1 80 (Qq q3 (.eq (.map (some z5.2)))),.obj b6 65 (.eq (.pointer (some ⟨z5.1,0,none⟩))),.obj b7 65 (.eq (.pointer (some ⟨z5.1,0,none⟩))),.obj b9 3 (I (0:Int))]:=fun b7 b9=>by
     subst hJ;refine JD.step [5] (by kernel_rfl) rfl ?_;refine ee.cons rfl ?_ ?_
     ·refine mq ?_;exact aQ (s575 b7 b9) [0,1,2,3,4,5] ⟨rfl,rfl,rfl,trivial⟩
     exact trivial
    have s31:∀(b7:Nat),J 8 [true,true,true,true,true,false,false,false,false,false,false,false,false] [(4,Pt b6),(27,.tup (.pair (Rs aB r8.1) (.pair (I r8.2.1) (.pair (.eq (.bool r8.2.2)) (.any)))))] [.obj b1 26 (.rep ag a0),.inv z5.2 (bJ k ((q3.1.1,q3.1.2.1,q3.1.2.2.1,q3.1.2.2.2),q3.2.1,q3.2.2)),.obj z5.1 80 (Qq q3 (.eq (.map (some z5.2)))),.obj b6 65 (.eq (.pointer (some ⟨z5.1,0,none⟩))),.obj b7 65 (.eq (.pointer (some ⟨z5.1,0,none⟩)))]:=fun b7=>by
     subst hJ;refine JD.step [5,9] (by kernel_rfl) rfl ?_;refine ee.cons rfl ?_ ?_
     ·refine mq ?_;exact aQ (s63 b7) [0,1,2,3,4] ⟨rfl,rfl,trivial⟩
     refine ee.cons rfl ?_ ?_
     ·refine aA rfl rfl rfl (aF rfl ym yX) trivial fun b9=>?_;exact aQ (s543 b7 b9) [1,2,3,4,5,0] ⟨rfl,rfl,rfl,trivial⟩
     exact trivial
    have s527:∀(b7 b9:Nat),J 8 [true,true,true,true,false,false,false,false,false,true,false,false,false] [(4,Pt b6),(7,Pt b9),(24,.eq (.func (.func 60) #[] #[(Pv b7)])),(26,.eq (.func (.func 31) #[(.pointer (some ⟨z5.1,0,none⟩))] #[]))] [.obj b1 26 (.rep ag a0),.raw z5.2 (.map #[] 0),.obj z5.1 80 (Qq q3 (.eq (.map (some z5.2)))),.obj b6 65 (.eq (.pointer (some ⟨z5.1,0,none⟩))),.obj b7 65 (.eq (.pointer (some ⟨z5.1,0,none⟩))),.obj b9 3 (I (0:Int))]:=fun b7 b9=>by
     subst hJ;refine JD.step [4] (by kernel_rfl) rfl ?_;refine ee.cons rfl ?_ ?_
     ·refine fr 1 ?_;refine eX (jS (bJ k ((q3.1.1,q3.1.2.1,q3.1.2.2.1,q3.1.2.2.2),q3.2.1,q3.2.2)) kM) ?_;refine fr 4 ?_;refine fr 1 ?_;refine fr 3 ?_;refine be (Δ:=[_,_,_]) (F:=_) (fun _ _ _=>az rfl _) rfl rfl (ak [.tmp 24,.tmp 26] rfl rfl Bt rfl (gy k ((q3.1.1,q3.1.2.1,q3.1.2.2.1,q3.1.2.2.2),q3.2.1,q3.2.2) z5.1 z5.2 b7 r8 er8)) ⟨rfl,rfl,trivial⟩ fun _=>?_;exact aQ (s543 b7 b9) [3,1,0,4,2,5] ⟨rfl,rfl,rfl,trivial⟩
     exact trivial
    have s15:∀(b7:Nat),J 9 [true,true,true,true,false,false,false,false,false,false,false,false,false] [(4,Pt b6),(24,.eq (.func (.func 60) #[] #[(Pv b7)])),(26,.eq (.func (.func 31) #[(.pointer (some ⟨z5.1,0,none⟩))] #[]))] [.obj b1 26 (.rep ag a0),.raw z5.2 (.map #[] 0),.obj z5.1 80 (Qq q3 (.eq (.map (some z5.2)))),.obj b6 65 (.eq (.pointer (some ⟨z5.1,0,none⟩))),.obj b7 65 (.eq (.pointer (some ⟨z5.1,0,none⟩)))]:=fun b7=>by
     subst hJ;refine JD.step [4,9] (by kernel_rfl) rfl ?_;refine ee.cons rfl ?_ ?_
     ·refine fr 1 ?_;refine eX (jS (bJ k ((q3.1.1,q3.1.2.1,q3.1.2.2.1,q3.1.2.2.2),q3.2.1,q3.2.2)) kM) ?_;refine fr 4 ?_;refine fr 1 ?_;refine fr 3 ?_;refine be (Δ:=[_,_,_]) (F:=_) (fun _ _ _=>az rfl _) rfl rfl (ak [.tmp 24,.tmp 26] rfl rfl Bt rfl (gy k ((q3.1.1,q3.1.2.1,q3.1.2.2.1,q3.1.2.2.2),q3.2.1,q3.2.2) z5.1 z5.2 b7 r8 er8)) ⟨rfl,rfl,trivial⟩ fun _=>?_;exact aQ (s31 b7) [3,1,0,4,2] ⟨rfl,rfl,trivial⟩
     refine ee.cons rfl ?_ ?_
     ·refine aA rfl rfl rfl (aF rfl ym yX) trivial fun b9=>?_;exact aQ (s527 b7 b9) [1,2,3,4,5,0] ⟨rfl,rfl,rfl,rfl,trivial⟩
     exact trivial
    have s519:∀(b7 b9:Nat),J 9 [true,true,true,false,false,false,false,false,false,true,false,false,false] [(4,Pt b6),(7,Pt b9),(24,.eq (.func (.func 60) #[] #[(Pv b7)])),(25,.eq (.pointer (some ⟨z5.1,0,none⟩)))] [.obj b1 26 (.rep ag a0),.raw z5.2 (.map #[] 0),.obj z5.1 80 (Qq q3 (.eq (.map (some z5.2)))),.obj b6 65 (.eq (.pointer (some ⟨z5.1,0,none⟩))),.obj b7 65 (.eq (.pointer (some ⟨z5.1,0,none⟩))),.obj b9 3 (I (0:Int))]:=fun b7 b9=>by
     subst hJ;refine JD.step [3] (by kernel_rfl) rfl ?_;refine ee.cons rfl ?_ ?_
     ·refine ja (jU [.tmp 25] [] [(.pointer (some ⟨z5.1,0,none⟩))] [] rfl rfl rfl) ?_;exact aQ (s527 b7 b9) [0,1,2,3,4,5] ⟨rfl,rfl,rfl,rfl,trivial⟩
     exact trivial
    have s525:∀(b9:Nat),J 9 [true,false,true,true,false,false,false,false,false,true,false,false,false] [(4,Pt b6),(7,Pt b9),(23,.eq (.pointer (some ⟨z5.1,0,none⟩))),(26,.eq (.func (.func 31) #[(.pointer (some ⟨z5.1,0,none⟩))] #[]))] [.obj b1 26 (.rep ag a0),.raw z5.2 (.map #[] 0),.obj z5.1 80 (Qq q3 (.eq (.map (some z5.2)))),.obj b6 65 (.eq (.pointer (some ⟨z5.1,0,none⟩))),.obj b9 3 (I (0:Int))]:=fun b9=>by
     subst hJ;refine JD.step [1] (by kernel_rfl) rfl ?_;refine ee.cons rfl ?_ ?_
     ·refine aA rfl rfl rfl (ak [.tmp 23] rfl rfl vy rfl (bN z5.1)) ⟨rfl,trivial⟩ fun b7=>?_;exact aQ (s527 b7 b9) [1,2,3,4,0,5] ⟨rfl,rfl,rfl,rfl,trivial⟩
     exact trivial
    have s7:∀(b7:Nat),J 10 [true,true,true,false,false,false,false,false,false,false,false,false,false] [(4,Pt b6),(24,.eq (.func (.func 60) #[] #[(Pv b7)])),(25,.eq (.pointer (some ⟨z5.1,0,none⟩)))] [.obj b1 26 (.rep ag a0),.raw z5.2 (.map #[] 0),.obj z5.1 80 (Qq q3 (.eq (.map (some z5.2)))),.obj b6 65 (.eq (.pointer (some ⟨z5.1,0,none⟩))),.obj b7 65 (.eq (.pointer (some ⟨z5.1,0,none⟩)))]:=fun b7=>by
     subst hJ;refine JD.step [3,9] (by kernel_rfl) rfl ?_;refine ee.cons rfl ?_ ?_
     ·refine ja (jU [.tmp 25] [] [(.pointer (some ⟨z5.1,0,none⟩))] [] rfl rfl rfl) ?_;exact aQ (s15 b7) [0,1,2,3,4] ⟨rfl,rfl,rfl,trivial⟩
     refine ee.cons rfl ?_ ?_
     ·refine aA rfl rfl rfl (aF rfl ym yX) trivial fun b9=>?_;exact aQ (s519 b7 b9) [1,2,3,4,5,0] ⟨rfl,rfl,rfl,rfl,trivial⟩
     exact trivial
    have s515:∀(b7 b9:Nat),J 10 [true,true,false,false,false,false,false,false,false,true,false,false,false] [(4,Pt b6),(7,Pt b9),(24,.eq (.func (.func 60) #[] #[(Pv b7)]))] [.obj b1 26 (.rep ag a0),.raw z5.2 (.map #[] 0),.obj z5.1 80 (Qq q3 (.eq (.map (some z5.2)))),.obj b6 65 (.eq (.pointer (some ⟨z5.1,0,none⟩))),.obj b7 65 (.eq (.pointer (some ⟨z5.1,0,none⟩))),.obj b9 3 (I (0:Int))]:=fun b7 b9=>by
     subst hJ;refine JD.step [2] (by kernel_rfl) rfl ?_;refine ee.cons rfl ?_ ?_
     ·refine fr 3 ?_;refine lo ie ?_;exact aQ (s519 b7 b9) [1,2,3,0,4,5] ⟨rfl,rfl,rfl,rfl,trivial⟩
     exact trivial
    have s13:J 10 [true,false,true,true,false,false,false,false,false,false,false,false,false] [(4,Pt b6),(23,.eq (.pointer (some ⟨z5.1,0,none⟩))),(26,.eq (.func (.func 31) #[(.pointer (some ⟨z5.1,0,none⟩))] #[]))] [.obj b1 26 (.rep ag a0),.raw z5.2 (.map #[] 0),.obj z5.1 80 (Qq q3 (.eq (.map (some z5.2)))),.obj b6 65 (.eq (.pointer (some ⟨z5.1,0,none⟩)))]:=by
     subst hJ;refine JD.step [1,9] (by kernel_rfl) rfl ?_;refine ee.cons rfl ?_ ?_
     ·refine aA rfl rfl rfl (ak [.tmp 23] rfl rfl vy rfl (bN z5.1)) ⟨rfl,trivial⟩ fun b7=>?_;exact aQ (s15 b7) [1,2,3,4,0] ⟨rfl,rfl,rfl,trivial⟩
     refine ee.cons rfl ?_ ?_
     ·refine aA rfl rfl rfl (aF rfl ym yX) trivial fun b9=>?_;exact aQ (s525 b9) [1,2,3,4,0] ⟨rfl,rfl,rfl,rfl,trivial⟩
     exact trivial
    have s517:∀(b9:Nat),J 10 [true,false,true,false,false,false,false,false,false,true,false,false,false] [(4,Pt b6),(7,Pt b9),(23,.eq (.pointer (some ⟨z5.1,0,none⟩))),(25,.eq (.pointer (some ⟨z5.1,0,none⟩)))] [.obj b1 26 (.rep ag a0),.raw z5.2 (.map #[] 0),.obj z5.1 80 (Qq q3 (.eq (.map (some z5.2)))),.obj b6 65 (.eq (.pointer (some ⟨z5.1,0,none⟩))),.obj b9 3 (I (0:Int))]:=fun b9=>by
     subst hJ;refine JD.step [1,3] (by kernel_rfl) rfl ?_;refine ee.cons rfl ?_ ?_
     ·refine aA rfl rfl rfl (ak [.tmp 23] rfl rfl vy rfl (bN z5.1)) ⟨rfl,trivial⟩ fun b7=>?_;exact aQ (s519 b7 b9) [1,2,3,4,0,5] ⟨rfl,rfl,rfl,rfl,trivial⟩
     refine ee.cons rfl ?_ ?_
     ·refine ja (jU [.tmp 25] [] [(.pointer (some ⟨z5.1,0,none⟩))] [] rfl rfl rfl) ?_;exact aQ (s525 b9) [0,1,2,3,4] ⟨rfl,rfl,rfl,rfl,trivial⟩
     exact trivial
    have s524:∀(b9:Nat),J 10 [false,false,true,true,false,false,false,false,false,true,false,false,false] [(4,Pt b6),(7,Pt b9),(26,.eq (.func (.func 31) #[(.pointer (some ⟨z5.1,0,none⟩))] #[]))] [.obj b1 26 (.rep ag a0),.raw z5.2 (.map #[] 0),.obj z5.1 80 (Qq q3 (.eq (.map (some z5.2)))),.obj b6 65 (.eq (.pointer (some ⟨z5.1,0,none⟩))),.obj b9 3 (I (0:Int))]:=fun b9=>by
     subst hJ;refine JD.step [0] (by kernel_rfl) rfl ?_;refine ee.cons rfl ?_ ?_
     ·refine fr 3 ?_;refine lo ie ?_;exact aQ (s525 b9) [1,2,3,0,4] ⟨rfl,rfl,rfl,rfl,trivial⟩
     exact trivial
    have s3:∀(b7:Nat),J 11 [true,true,false,false,false,false,false,false,false,false,false,false,false] [(4,Pt b6),(24,.eq (.func (.func 60) #[] #[(Pv b7)]))] [.obj b1 26 (.rep ag a0),.raw z5.2 (.map #[] 0),.obj z5.1 80 (Qq q3 (.eq (.map (some z5.2)))),.obj b6 65 (.eq (.pointer (some ⟨z5.1,0,none⟩))),.obj b7 65 (.eq (.pointer (some ⟨z5.1,0,none⟩)))]:=fun b7=>by
     subst hJ;refine JD.step [2,9] (by kernel_rfl) rfl ?_;refine ee.cons rfl ?_ ?_
     ·refine fr 3 ?_;refine lo ie ?_;exact aQ (s7 b7) [1,2,3,0,4] ⟨rfl,rfl,rfl,trivial⟩
     refine ee.cons rfl ?_ ?_
     ·refine aA rfl rfl rfl (aF rfl ym yX) trivial fun b9=>?_;exact aQ (s515 b7 b9) [1,2,3,4,5,0] ⟨rfl,rfl,rfl,trivial⟩
     exact trivial
    have s5:J 11 [true,false,true,false,false,false,false,false,false,false,false,false,false] [(4,Pt b6),(23,.eq (.pointer (some ⟨z5.1,0,none⟩))),(25,.eq (.pointer (some ⟨z5.1,0,none⟩)))] [.obj b1 26 (.rep ag a0),.raw z5.2 (.map #[] 0),.obj z5.1 80 (Qq q3 (.eq (.map (some z5.2)))),.obj b6 65 (.eq (.pointer (some ⟨z5.1,0,none⟩)))]:=by
     subst hJ;refine JD.step [1,3,9] (by kernel_rfl) rfl ?_;refine ee.cons rfl ?_ ?_
     ·refine aA rfl rfl rfl (ak [.tmp 23] rfl rfl vy rfl (bN z5.1)) ⟨rfl,trivial⟩ fun b7=>?_;exact aQ (s7 b7) [1,2,3,4,0] ⟨rfl,rfl,rfl,trivial⟩
     refine ee.cons rfl ?_ ?_
     ·refine ja (jU [.tmp 25] [] [(.pointer (some ⟨z5.1,0,none⟩))] [] rfl rfl rfl) ?_;exact aQ s13 [0,1,2,3] ⟨rfl,rfl,rfl,trivial⟩
     refine ee.cons rfl ?_ ?_
     ·refine aA rfl rfl rfl (aF rfl ym yX) trivial fun b9=>?_;exact aQ (s517 b9) [1,2,3,4,0] ⟨rfl,rfl,rfl,rfl,trivial⟩
     exact trivial
    have s513:∀(b9:Nat),J 11 [true,false,false,false,false,false,false,false,false,true,false,false,false] [(4,Pt b6),(7,Pt b9),(23,.eq (.pointer (some ⟨z5.1,0,none⟩)))] [.obj b1 26 (.rep ag a0),.raw z5.2 (.map #[] 0),.obj z5.1 80 (Qq q3 (.eq (.map (some z5.2)))),.obj b6 65 (.eq (.pointer (some ⟨z5.1,0,none⟩))),.obj b9 3 (I (0:Int))]:=fun b9=>by
     subst hJ;refine JD.step [1,2] (by kernel_rfl) rfl ?_;refine ee.cons rfl ?_ ?_
     ·refine aA rfl rfl rfl (ak [.tmp 23] rfl rfl vy rfl (bN z5.1)) ⟨rfl,trivial⟩ fun b7=>?_;exact aQ (s515 b7 b9) [1,2,3,4,0,5] ⟨rfl,rfl,rfl,trivial⟩
     refine ee.cons rfl ?_ ?_
     ·refine fr 3 ?_;refine lo ie ?_;exact aQ (s517 b9) [1,2,3,0,4] ⟨rfl,rfl,rfl,rfl,trivial⟩
     exact trivial
    have s12:J 11 [false,false,true,true,false,false,false,false,false,false,false,false,false] [(4,Pt b6),(26,.eq (.func (.func 31) #[(.pointer (some ⟨z5.1,0,none⟩))] #[]))] [.obj b1 26 (.rep ag a0),.raw z5.2 (.map #[] 0),.obj z5.1 80 (Qq q3 (.eq (.map (some z5.2)))),.obj b6 65 (.eq (.pointer (some ⟨z5.1,0,none⟩)))]:=by
     subst hJ;refine JD.step [0,9] (by kernel_rfl) rfl ?_;refine ee.cons rfl ?_ ?_
     ·refine fr 3 ?_;refine lo ie ?_;exact aQ s13 [1,2,3,0] ⟨rfl,rfl,rfl,trivial⟩
     refine ee.cons rfl ?_ ?_
     ·refine aA rfl rfl rfl (aF rfl ym yX) trivial fun b9=>?_;exact aQ (s524 b9) [1,2,3,4,0] ⟨rfl,rfl,rfl,trivial⟩
     exact trivial
    have s516:∀(b9:Nat),J 11 [false,false,true,false,false,false,false,false,false,true,false,false,false] [(4,Pt b6),(7,Pt b9),(25,.eq (.pointer (some ⟨z5.1,0,none⟩)))] [.obj b1 26 (.rep ag a0),.raw z5.2 (.map #[] 0),.obj z5.1 80 (Qq q3 (.eq (.map (some z5.2)))),.obj b6 65 (.eq (.pointer (some ⟨z5.1,0,none⟩))),.obj b9 3 (I (0:Int))]:=fun b9=>by
     subst hJ;refine JD.step [0,3] (by kernel_rfl) rfl ?_;refine ee.cons rfl ?_ ?_
     ·refine fr 3 ?_;refine lo ie ?_;exact aQ (s517 b9) [1,2,3,0,4] ⟨rfl,rfl,rfl,rfl,trivial⟩
     refine ee.cons rfl ?_ ?_
     ·refine ja (jU [.tmp 25] [] [(.pointer (some ⟨z5.1,0,none⟩))] [] rfl rfl rfl) ?_;exact aQ (s524 b9) [0,1,2,3,4] ⟨rfl,rfl,rfl,trivial⟩
     exact trivial
    have s1:J 12 [true,false,false,false,false,false,false,false,false,false,false,false,false] [(4,Pt b6),(23,.eq (.pointer (some ⟨z5.1,0,none⟩)))] [.obj b1 26 (.rep ag a0),.raw z5.2 (.map #[] 0),.obj z5.1 80 (Qq q3 (.eq (.map (some z5.2)))),.obj b6 65 (.eq (.pointer (some ⟨z5.1,0,none⟩)))]:=by
     subst hJ;refine JD.step [1,2,9] (by kernel_rfl) rfl ?_;refine ee.cons rfl ?_ ?_
     ·refine aA rfl rfl rfl (ak [.tmp 23] rfl rfl vy rfl (bN z5.1)) ⟨rfl,trivial⟩ fun b7=>?_;exact aQ (s3 b7) [1,2,3,4,0] ⟨rfl,rfl,trivial⟩
     refine ee.cons rfl ?_ ?_
     ·refine fr 3 ?_;refine lo ie ?_;exact aQ s5 [1,2,3,0] ⟨rfl,rfl,rfl,trivial⟩
     refine ee.cons rfl ?_ ?_
     ·refine aA rfl rfl rfl (aF rfl ym yX) trivial fun b9=>?_;exact aQ (s513 b9) [1,2,3,4,0] ⟨rfl,rfl,rfl,trivial⟩
     exact trivial
    have s4:J 12 [false,false,true,false,false,false,false,false,false,false,false,false,false] [(4,Pt b6),(25,.eq (.pointer (some ⟨z5.1,0,none⟩)))] [.obj b1 26 (.rep ag a0),.raw z5.2 (.map #[] 0),.obj z5.1 80 (Qq q3 (.eq (.map (some z5.2)))),.obj b6 65 (.eq (.pointer (some ⟨z5.1,0,none⟩)))]:=by
     subst hJ;refine JD.step [0,3,9] (by kernel_rfl) rfl ?_;refine ee.cons rfl ?_ ?_
     ·refine fr 3 ?_;refine lo ie ?_;exact aQ s5 [1,2,3,0] ⟨rfl,rfl,rfl,trivial⟩
     refine ee.cons rfl ?_ ?_
     ·refine ja (jU [.tmp 25] [] [(.pointer (some ⟨z5.1,0,none⟩))] [] rfl rfl rfl) ?_;exact aQ s12 [0,1,2,3] ⟨rfl,rfl,trivial⟩
     refine ee.cons rfl ?_ ?_
     ·refine aA rfl rfl rfl (aF rfl ym yX) trivial fun b9=>?_;exact aQ (s516 b9) [1,2,3,4,0] ⟨rfl,rfl,rfl,trivial⟩
     exact trivial
    have s512:∀(b9:Nat),J 12 [false,false,false,false,false,false,false,false,false,true,false,false,false] [(4,Pt b6),(7,Pt b9)] [.obj b1 26 (.rep ag a0),.raw z5.2 (.map #[] 0),.obj z5.1 80 (Qq q3 (.eq (.map (some z5.2)))),.obj b6 65 (.eq (.pointer (some ⟨z5.1,0,none⟩))),.obj b9 3 (I (0:Int))]:=fun b9=>by
     subst hJ;refine JD.step [0,2] (by kernel_rfl) rfl ?_;refine ee.cons rfl ?_ ?_
     ·refine fr 3 ?_;refine lo ie ?_;exact aQ (s513 b9) [1,2,3,0,4] ⟨rfl,rfl,rfl,trivial⟩
     refine ee.cons rfl ?_ ?_
     ·refine fr 3 ?_;refine lo ie ?_;exact aQ (s516 b9) [1,2,3,0,4] ⟨rfl,rfl,rfl,trivial⟩
     exact trivial
    have s0:J 13 [false,false,false,false,false,false,false,false,false,false,false,false,false] [(4,Pt b6)] [.obj b6 65 (.eq (.pointer (some ⟨z5.1,0,none⟩))),.obj z5.1 80 (Qq q3 (.eq (.map (some z5.2)))),.raw z5.2 (.map #[] 0),.obj b1 26 (.rep ag a0)]:=by
     subst hJ;refine JD.step [0,2,9] (by kernel_rfl) rfl ?_;refine ee.cons rfl ?_ ?_
     ·refine lo ie ?_;exact aQ s1 [3,2,1,0] ⟨rfl,rfl,trivial⟩
     refine ee.cons rfl ?_ ?_
     ·refine lo ie ?_;exact aQ s4 [3,2,1,0] ⟨rfl,rfl,trivial⟩
     refine ee.cons rfl ?_ ?_
     ·refine aA rfl rfl rfl (aF rfl ym yX) trivial fun b9=>?_;exact aQ (s512 b9) [4,3,2,1,0] ⟨rfl,rfl,trivial⟩
     exact trivial
    exact s0
   rintro⟨b7,b9⟩;show JN _ _ [(4,Pt b6),(7,Pt b9),(8,.eq (.bool r8.2.2))] [.obj b1 26 (.rep ag a0),.inv z5.2 (bJ k ((q3.1.1,q3.1.2.1,q3.1.2.2.1,q3.1.2.2.2),q3.2.1,q3.2.2)),.obj z5.1 80 (Qq q3 (.eq (.map (some z5.2)))),.obj b6 65 (.eq (.pointer (some ⟨z5.1,0,none⟩))),.obj b7 65 (.eq (.pointer (some ⟨z5.1,0,none⟩))),.obj b9 3 (I r8.2.1)];refine tn (aj (sr (mq ?_)));refine ja (eE rfl) ?_;refine nt (cw h (fun h=>?_) (fun h=>?_))
   ·refine sr (cq ?_);refine cq (nt (rx ?_));refine bC (fY (t:=(.slice (.int .i64))) (x:=[]) 2 rfl .nil rfl rfl) ?_;cases h;exact rb
   ·refine sk (aj (eL (SE.fin (Γ':=[(4,Pt b6),(7,Pt b9)]) (Δ':=[.obj b1 26 (.rep ag a0),.inv z5.2 (bJ k ((q3.1.1,q3.1.2.1,q3.1.2.2.1,q3.1.2.2.2),q3.2.1,q3.2.2)),.obj z5.1 80 (Qq q3 (.eq (.map (some z5.2)))),.obj b6 65 (.eq (.pointer (some ⟨z5.1,0,none⟩))),.obj b7 65 (.eq (.pointer (some ⟨z5.1,0,none⟩))),.obj b9 3 (I r8.2.1)]) [0,1,2,3,4,5] ⟨rfl,rfl,trivial⟩ rfl) ?_));refine BZ (I:=Nat×Nat×Nat×Nat) (Ge:=fun i=>[(4,Pt b6),(7,Pt b9),(9,.eq (.pointer (some ⟨i.2.2.1,0,none⟩))),(10,.eq (.pointer (some ⟨i.2.2.2,0,none⟩)))]) (De:=fun i=>[.obj b1 26 (.rep ag a0),.inv z5.2 (bJ k ((q3.1.1,q3.1.2.1,q3.1.2.2.1,q3.1.2.2.2),q3.2.1,q3.2.2)),.obj z5.1 80 (Qq q3 (.eq (.map (some z5.2)))),.obj b6 65 (.eq (.pointer (some ⟨z5.1,0,none⟩))),.obj b7 65 (.eq (.pointer (some ⟨z5.1,0,none⟩))),.obj b9 3 (I r8.2.1),.raw i.1 (.chan 0 #[] false 0 0 false),.raw i.2.1 (.chan 0 #[] false 0 0 false),.obj i.2.2.1 74 (.eq (.chan (some i.1))),.obj i.2.2.2 74 (.eq (.chan (some i.2.1)))]) (L:=[true,true,true,true,true,true]) bw rfl (fun J hJ hE=>?_) (by kernel_rfl) ?_
    ·have s31:∀(z10 z11 b12 b13:Nat),J 1 [true,true,true,true,true,false] [(4,Pt b6),(7,Pt b9),(9,Pt b12),(10,Pt b13),(34,.eq (.chan (some z11)))] [.obj b1 26 (.rep ag a0),.inv z5.2 (bJ k ((q3.1.1,q3.1.2.1,q3.1.2.2.1,q3.1.2.2.2),q3.2.1,q3.2.2)),.obj z5.1 80 (Qq q3 (.eq (.map (some z5.2)))),.obj b6 65 (.eq (.pointer (some ⟨z5.1,0,none⟩))),.obj b7 65 (.eq (.pointer (some ⟨z5.1,0,none⟩))),.obj b9 3 (I r8.2.1),.raw z10 (.chan 0 #[] false 0 0 false),.raw z11 (.chan 0 #[] false 0 0 false),.obj b12 74 (.eq (.chan (some z10))),.obj b13 74 (.eq (.chan none))]:=fun z10 z11 b12 b13=>by
      subst hJ;refine JD.step [5] (by kernel_rfl) rfl ?_;refine ee.cons rfl ?_ ?_
      ·refine fr 9 ?_;refine aK rfl rfl (aE rfl Mc rfl rfl rfl) ⟨rfl,rfl,trivial⟩ ?_;exact aQ (hE ⟨z10,z11,b12,b13⟩) [1,2,3,4,5,6,7,8,9,0] ⟨rfl,rfl,rfl,rfl,trivial⟩
      exact trivial
     have s15:∀(z10 z11 b12 b13:Nat),J 2 [true,true,true,true,false,false] [(4,Pt b6),(7,Pt b9),(9,Pt b12),(10,Pt b13),(33,.eq (.chan (some z10))),(34,.eq (.chan (some z11)))] [.obj b1 26 (.rep ag a0),.inv z5.2 (bJ k ((q3.1.1,q3.1.2.1,q3.1.2.2.1,q3.1.2.2.2),q3.2.1,q3.2.2)),.obj z5.1 80 (Qq q3 (.eq (.map (some z5.2)))),.obj b6 65 (.eq (.pointer (some ⟨z5.1,0,none⟩))),.obj b7 65 (.eq (.pointer (some ⟨z5.1,0,none⟩))),.obj b9 3 (I r8.2.1),.raw z10 (.chan 0 #[] false 0 0 false),.raw z11 (.chan 0 #[] false 0 0 false),.obj b12 74 (.eq (.chan none)),.obj b13 74 (.eq (.chan none))]:=fun z10 z11 b12 b13=>by
      subst hJ;refine JD.step [4] (by kernel_rfl) rfl ?_;refine ee.cons rfl ?_ ?_
      ·refine fr 8 ?_;refine aK rfl rfl (aE rfl Mc rfl rfl rfl) ⟨rfl,rfl,trivial⟩ ?_;exact aQ (s31 z10 z11 b12 b13) [1,2,3,4,5,6,7,8,0,9] ⟨rfl,rfl,rfl,rfl,rfl,trivial⟩
      exact trivial
     have s29:∀(z10 b12 b13:Nat),J 2 [true,false,true,true,true,false] [(4,Pt b6),(7,Pt b9),(9,Pt b12),(10,Pt b13)] [.obj b1 26 (.rep ag a0),.inv z5.2 (bJ k ((q3.1.1,q3.1.2.1,q3.1.2.2.1,q3.1.2.2.2),q3.2.1,q3.2.2)),.obj z5.1 80 (Qq q3 (.eq (.map (some z5.2)))),.obj b6 65 (.eq (.pointer (some ⟨z5.1,0,none⟩))),.obj b7 65 (.eq (.pointer (some ⟨z5.1,0,none⟩))),.obj b9 3 (I r8.2.1),.raw z10 (.chan 0 #[] false 0 0 false),.obj b12 74 (.eq (.chan (some z10))),.obj b13 74 (.eq (.chan none))]:=fun z10 b12 b13=>by
      subst hJ;refine JD.step [1] (by kernel_rfl) rfl ?_;refine ee.cons rfl ?_ ?_
      ·refine aA rfl rfl rfl (dj rfl qn) trivial fun z11=>?_;exact aQ (s31 z10 z11 b12 b13) [1,2,3,4,5,6,7,0,8,9] ⟨rfl,rfl,rfl,rfl,rfl,trivial⟩
      exact trivial
     have s7:∀(z10 z11 b12:Nat),J 3 [true,true,true,false,false,false] [(4,Pt b6),(7,Pt b9),(9,Pt b12),(33,.eq (.chan (some z10))),(34,.eq (.chan (some z11)))] [.obj b1 26 (.rep ag a0),.inv z5.2 (bJ k ((q3.1.1,q3.1.2.1,q3.1.2.2.1,q3.1.2.2.2),q3.2.1,q3.2.2)),.obj z5.1 80 (Qq q3 (.eq (.map (some z5.2)))),.obj b6 65 (.eq (.pointer (some ⟨z5.1,0,none⟩))),.obj b7 65 (.eq (.pointer (some ⟨z5.1,0,none⟩))),.obj b9 3 (I r8.2.1),.raw z10 (.chan 0 #[] false 0 0 false),.raw z11 (.chan 0 #[] false 0 0 false),.obj b12 74 (.eq (.chan none))]:=fun z10 z11 b12=>by
      subst hJ;refine JD.step [3] (by kernel_rfl) rfl ?_;refine ee.cons rfl ?_ ?_
      ·refine aA rfl rfl rfl (aF rfl rE rL) trivial fun b13=>?_;exact aQ (s15 z10 z11 b12 b13) [1,2,3,4,5,6,7,8,9,0] ⟨rfl,rfl,rfl,rfl,rfl,rfl,trivial⟩
      exact trivial
     have s11:∀(z10 z11 b13:Nat),J 3 [true,true,false,true,false,false] [(4,Pt b6),(7,Pt b9),(10,Pt b13),(33,.eq (.chan (some z10))),(34,.eq (.chan (some z11)))] [.obj b1 26 (.rep ag a0),.inv z5.2 (bJ k ((q3.1.1,q3.1.2.1,q3.1.2.2.1,q3.1.2.2.2),q3.2.1,q3.2.2)),.obj z5.1 80 (Qq q3 (.eq (.map (some z5.2)))),.obj b6 65 (.eq (.pointer (some ⟨z5.1,0,none⟩))),.obj b7 65 (.eq (.pointer (some ⟨z5.1,0,none⟩))),.obj b9 3 (I r8.2.1),.raw z10 (.chan 0 #[] false 0 0 false),.raw z11 (.chan 0 #[] false 0 0 false),.obj b13 74 (.eq (.chan none))]:=fun z10 z11 b13=>by
      subst hJ;refine JD.step [2] (by kernel_rfl) rfl ?_;refine ee.cons rfl ?_ ?_
      ·refine aA rfl rfl rfl (aF rfl rE rL) trivial fun b12=>?_;exact aQ (s15 z10 z11 b12 b13) [1,2,3,4,5,6,7,8,0,9] ⟨rfl,rfl,rfl,rfl,rfl,rfl,trivial⟩
      exact trivial
     have s13:∀(z10 b12 b13:Nat),J 3 [true,false,true,true,false,false] [(4,Pt b6),(7,Pt b9),(9,Pt b12),(10,Pt b13),(33,.eq (.chan (some z10)))] [.obj b1 26 (.rep ag a0),.inv z5.2 (bJ k ((q3.1.1,q3.1.2.1,q3.1.2.2.1,q3.1.2.2.2),q3.2.1,q3.2.2)),.obj z5.1 80 (Qq q3 (.eq (.map (some z5.2)))),.obj b6 65 (.eq (.pointer (some ⟨z5.1,0,none⟩))),.obj b7 65 (.eq (.pointer (some ⟨z5.1,0,none⟩))),.obj b9 3 (I r8.2.1),.raw z10 (.chan 0 #[] false 0 0 false),.obj b12 74 (.eq (.chan none)),.obj b13 74 (.eq (.chan none))]:=fun z10 b12 b13=>by
      subst hJ;refine JD.step [1,4] (by kernel_rfl) rfl ?_;refine ee.cons rfl ?_ ?_
      ·refine aA rfl rfl rfl (dj rfl qn) trivial fun z11=>?_;exact aQ (s15 z10 z11 b12 b13) [1,2,3,4,5,6,7,0,8,9] ⟨rfl,rfl,rfl,rfl,rfl,rfl,trivial⟩
      refine ee.cons rfl ?_ ?_
      ·refine fr 7 ?_;refine aK rfl rfl (aE rfl Mc rfl rfl rfl) ⟨rfl,rfl,trivial⟩ ?_;exact aQ (s29 z10 b12 b13) [1,2,3,4,5,6,7,0,8] ⟨rfl,rfl,rfl,rfl,trivial⟩
      exact trivial
     have s14:∀(z11 b12 b13:Nat),J 3 [false,true,true,true,false,false] [(4,Pt b6),(7,Pt b9),(9,Pt b12),(10,Pt b13),(34,.eq (.chan (some z11)))] [.obj b1 26 (.rep ag a0),.inv z5.2 (bJ k ((q3.1.1,q3.1.2.1,q3.1.2.2.1,q3.1.2.2.2),q3.2.1,q3.2.2)),.obj z5.1 80 (Qq q3 (.eq (.map (some z5.2)))),.obj b6 65 (.eq (.pointer (some ⟨z5.1,0,none⟩))),.obj b7 65 (.eq (.pointer (some ⟨z5.1,0,none⟩))),.obj b9 3 (I r8.2.1),.raw z11 (.chan 0 #[] false 0 0 false),.obj b12 74 (.eq (.chan none)),.obj b13 74 (.eq (.chan none))]:=fun z11 b12 b13=>by
      subst hJ;refine JD.step [0] (by kernel_rfl) rfl ?_;refine ee.cons rfl ?_ ?_
      ·refine aA rfl rfl rfl (dj rfl qn) trivial fun z10=>?_;exact aQ (s15 z10 z11 b12 b13) [1,2,3,4,5,6,0,7,8,9] ⟨rfl,rfl,rfl,rfl,rfl,rfl,trivial⟩
      exact trivial
     have s3:∀(z10 z11:Nat),J 4 [true,true,false,false,false,false] [(4,Pt b6),(7,Pt b9),(33,.eq (.chan (some z10))),(34,.eq (.chan (some z11)))] [.obj b1 26 (.rep ag a0),.inv z5.2 (bJ k ((q3.1.1,q3.1.2.1,q3.1.2.2.1,q3.1.2.2.2),q3.2.1,q3.2.2)),.obj z5.1 80 (Qq q3 (.eq (.map (some z5.2)))),.obj b6 65 (.eq (.pointer (some ⟨z5.1,0,none⟩))),.obj b7 65 (.eq (.pointer (some ⟨z5.1,0,none⟩))),.obj b9 3 (I r8.2.1),.raw z10 (.chan 0 #[] false 0 0 false),.raw z11 (.chan 0 #[] false 0 0 false)]:=fun z10 z11=>by
      subst hJ;refine JD.step [2,3] (by kernel_rfl) rfl ?_;refine ee.cons rfl ?_ ?_
      ·refine aA rfl rfl rfl (aF rfl rE rL) trivial fun b12=>?_;exact aQ (s7 z10 z11 b12) [1,2,3,4,5,6,7,8,0] ⟨rfl,rfl,rfl,rfl,rfl,trivial⟩
      refine ee.cons rfl ?_ ?_
      ·refine aA rfl rfl rfl (aF rfl rE rL) trivial fun b13=>?_;exact aQ (s11 z10 z11 b13) [1,2,3,4,5,6,7,8,0] ⟨rfl,rfl,rfl,rfl,rfl,trivial⟩
      exact trivial
     have s5:∀(z10 b12:Nat),J 4 [true,false,true,false,false,false] [(4,Pt b6),(7,Pt b9),(9,Pt b12),(33,.eq (.chan (some z10)))] [.obj b1 26 (.rep ag a0),.inv z5.2 (bJ k ((q3.1.1,q3.1.2.1,q3.1.2.2.1,q3.1.2.2.2),q3.2.1,q3.2.2)),.obj z5.1 80 (Qq q3 (.eq (.map (some z5.2)))),.obj b6 65 (.eq (.pointer (some ⟨z5.1,0,none⟩))),.obj b7 65 (.eq (.pointer (some ⟨z5.1,0,none⟩))),.obj b9 3 (I r8.2.1),.raw z10 (.chan 0 #[] false 0 0 false),.obj b12 74 (.eq (.chan none))]:=fun z10 b12=>by
      subst hJ;refine JD.step [1,3] (by kernel_rfl) rfl ?_;refine ee.cons rfl ?_ ?_
      ·refine aA rfl rfl rfl (dj rfl qn) trivial fun z11=>?_;exact aQ (s7 z10 z11 b12) [1,2,3,4,5,6,7,0,8] ⟨rfl,rfl,rfl,rfl,rfl,trivial⟩
      refine ee.cons rfl ?_ ?_
      ·refine aA rfl rfl rfl (aF rfl rE rL) trivial fun b13=>?_;exact aQ (s13 z10 b12 b13) [1,2,3,4,5,6,7,8,0] ⟨rfl,rfl,rfl,rfl,rfl,trivial⟩
      exact trivial
     have s9:∀(z10 b13:Nat),J 4 [true,false,false,true,false,false] [(4,Pt b6),(7,Pt b9),(10,Pt b13),(33,.eq (.chan (some z10)))] [.obj b1 26 (.rep ag a0),.inv z5.2 (bJ k ((q3.1.1,q3.1.2.1,q3.1.2.2.1,q3.1.2.2.2),q3.2.1,q3.2.2)),.obj z5.1 80 (Qq q3 (.eq (.map (some z5.2)))),.obj b6 65 (.eq (.pointer (some ⟨z5.1,0,none⟩))),.obj b7 65 (.eq (.pointer (some ⟨z5.1,0,none⟩))),.obj b9 3 (I r8.2.1),.raw z10 (.chan 0 #[] false 0 0 false),.obj b13 74 (.eq (.chan none))]:=fun z10 b13=>by
      subst hJ;refine JD.step [1,2] (by kernel_rfl) rfl ?_;refine ee.cons rfl ?_ ?_
      ·refine aA rfl rfl rfl (dj rfl qn) trivial fun z11=>?_;exact aQ (s11 z10 z11 b13) [1,2,3,4,5,6,7,0,8] ⟨rfl,rfl,rfl,rfl,rfl,trivial⟩
      refine ee.cons rfl ?_ ?_
      ·refine aA rfl rfl rfl (aF rfl rE rL) trivial fun b12=>?_;exact aQ (s13 z10 b12 b13) [1,2,3,4,5,6,7,0,8] ⟨rfl,rfl,rfl,rfl,rfl,trivial⟩
      exact trivial
     have s6:∀(z11 b12:Nat),J 4 [false,true,true,false,false,false] [(4,Pt b6),(7,Pt b9),(9,Pt b12),(34,.eq (.chan (some z11)))] [.obj b1 26 (.rep ag a0),.inv z5.2 (bJ k ((q3.1.1,q3.1.2.1,q3.1.2.2.1,q3.1.2.2.2),q3.2.1,q3.2.2)),.obj z5.1 80 (Qq q3 (.eq (.map (some z5.2)))),.obj b6 65 (.eq (.pointer (some ⟨z5.1,0,none⟩))),.obj b7 65 (.eq (.pointer (some ⟨z5.1,0,none⟩))),.obj b9 3 (I r8.2.1),.raw z11 (.chan 0 #[] false 0 0 false),.obj b12 74 (.eq (.chan none))]:=fun z11 b12=>by
      subst hJ;refine JD.step [0,3] (by kernel_rfl) rfl ?_;refine ee.cons rfl ?_ ?_
      ·refine aA rfl rfl rfl (dj rfl qn) trivial fun z10=>?_;exact aQ (s7 z10 z11 b12) [1,2,3,4,5,6,0,7,8] ⟨rfl,rfl,rfl,rfl,rfl,trivial⟩
      refine ee.cons rfl ?_ ?_
      ·refine aA rfl rfl rfl (aF rfl rE rL) trivial fun b13=>?_;exact aQ (s14 z11 b12 b13) [1,2,3,4,5,6,7,8,0] ⟨rfl,rfl,rfl,rfl,rfl,trivial⟩
      exact trivial
     have s10:∀(z11 b13:Nat),J 4 [false,true,false,true,false,false] [(4,Pt b6),(7,Pt b9),(10,Pt b13),(34,.eq (.chan (some z11)))] [.obj b1 26 (.rep ag a0),.inv z5.2 (bJ k ((q3.1.1,q3.1.2.1,q3.1.2.2.1,q3.1.2.2.2),q3.2.1,q3.2.2)),.obj z5.1 80 (Qq q3 (.eq (.map (some z5.2)))),.obj b6 65 (.eq (.pointer (some ⟨z5.1,0,none⟩))),.obj b7 65 (.eq (.pointer (some ⟨z5.1,0,none⟩))),.obj b9 3 (I r8.2.1),.raw z11 (.chan 0 #[] false 0 0 false),.obj b13 74 (.eq (.chan none))]:=fun z11 b13=>by
      subst hJ;refine JD.step [0,2] (by kernel_rfl) rfl ?_;refine ee.cons rfl ?_ ?_
      ·refine aA rfl rfl rfl (dj rfl qn) trivial fun z10=>?_;exact aQ (s11 z10 z11 b13) [1,2,3,4,5,6,0,7,8] ⟨rfl,rfl,rfl,rfl,rfl,trivial⟩
      refine ee.cons rfl ?_ ?_
      ·refine aA rfl rfl rfl (aF rfl rE rL) trivial fun b12=>?_;exact aQ (s14 z11 b12 b13) [1,2,3,4,5,6,7,0,8] ⟨rfl,rfl,rfl,rfl,rfl,trivial⟩
      exact trivial
     have s12:∀(b12 b13:Nat),J 4 [false,false,true,true,false,false] [(4,Pt b6),(7,Pt b9),(9,Pt b12),(10,Pt b13)] [.obj b1 26 (.rep ag a0),.inv z5.2 (bJ k ((q3.1.1,q3.1.2.1,q3.1.2.2.1,q3.1.2.2.2),q3.2.1,q3.2.2)),.obj z5.1 80 (Qq q3 (.eq (.map (some z5.2)))),.obj b6 65 (.eq (.pointer (some ⟨z5.1,0,none⟩))),.obj b7 65 (.eq (.pointer (some ⟨z5.1,0,none⟩))),.obj b9 3 (I r8.2.1),.obj b12 74 (.eq (.chan none)),.obj b13 74 (.eq (.chan none))]:=fun b12 b13=>by
      subst hJ;refine JD.step [0,1] (by kernel_rfl) rfl ?_;refine ee.cons rfl ?_ ?_
      ·refine aA rfl rfl rfl (dj rfl qn) trivial fun z10=>?_;exact aQ (s13 z10 b12 b13) [1,2,3,4,5,6,0,7,8] ⟨rfl,rfl,rfl,rfl,rfl,trivial⟩
      refine ee.cons rfl ?_ ?_
      ·refine aA rfl rfl rfl (dj rfl qn) trivial fun z11=>?_;exact aQ (s14 z11 b12 b13) [1,2,3,4,5,6,0,7,8] ⟨rfl,rfl,rfl,rfl,rfl,trivial⟩
      exact trivial
     have s1:∀(z10:Nat),J 5 [true,false,false,false,false,false] [(4,Pt b6),(7,Pt b9),(33,.eq (.chan (some z10)))] [.obj b1 26 (.rep ag a0),.inv z5.2 (bJ k ((q3.1.1,q3.1.2.1,q3.1.2.2.1,q3.1.2.2.2),q3.2.1,q3.2.2)),.obj z5.1 80 (Qq q3 (.eq (.map (some z5.2)))),.obj b6 65 (.eq (.pointer (some ⟨z5.1,0,none⟩))),.obj b7 65 (.eq (.pointer (some ⟨z5.1,0,none⟩))),.obj b9 3 (I r8.2.1),.raw z10 (.chan 0 #[] false 0 0 false)]:=fun z10=>by
      subst hJ;refine JD.step [1,2,3] (by kernel_rfl) rfl ?_;refine ee.cons rfl ?_ ?_
      ·refine aA rfl rfl rfl (dj rfl qn) trivial fun z11=>?_;exact aQ (s3 z10 z11) [1,2,3,4,5,6,7,0] ⟨rfl,rfl,rfl,rfl,trivial⟩
      refine ee.cons rfl ?_ ?_
      ·refine aA rfl rfl rfl (aF rfl rE rL) trivial fun b12=>?_;exact aQ (s5 z10 b12) [1,2,3,4,5,6,7,0] ⟨rfl,rfl,rfl,rfl,trivial⟩
      refine ee.cons rfl ?_ ?_
      ·refine aA rfl rfl rfl (aF rfl rE rL) trivial fun b13=>?_;exact aQ (s9 z10 b13) [1,2,3,4,5,6,7,0] ⟨rfl,rfl,rfl,rfl,trivial⟩
      exact trivial
     have s2:∀(z11:Nat),J 5 [false,true,false,false,false,false] [(4,Pt b6),(7,Pt b9),(34,.eq (.chan (some z11)))] [.obj b1 26 (.rep ag a0),.inv z5.2 (bJ k ((q3.1.1,q3.1.2.1,q3.1.2.2.1,q3.1.2.2.2),q3.2.1,q3.2.2)),.obj z5.1 80 (Qq q3 (.eq (.map (some z5.2)))),.obj b6 65 (.eq (.pointer (some ⟨z5.1,0,none⟩))),.obj b7 65 (.eq (.pointer (some ⟨z5.1,0,none⟩))),.obj b9 3 (I r8.2.1),.raw z11 (.chan 0 #[] false 0 0 false)]:=fun z11=>by
      subst hJ;refine JD.step [0,2,3] (by kernel_rfl) rfl ?_;refine ee.cons rfl ?_ ?_
      ·refine aA rfl rfl rfl (dj rfl qn) trivial fun z10=>?_;exact aQ (s3 z10 z11) [1,2,3,4,5,6,0,7] ⟨rfl,rfl,rfl,rfl,trivial⟩
      refine ee.cons rfl ?_ ?_
      ·refine aA rfl rfl rfl (aF rfl rE rL) trivial fun b12=>?_;exact aQ (s6 z11 b12) [1,2,3,4,5,6,7,0] ⟨rfl,rfl,rfl,rfl,trivial⟩
      refine ee.cons rfl ?_ ?_
      ·refine aA rfl rfl rfl (aF rfl rE rL) trivial fun b13=>?_;exact aQ (s10 z11 b13) [1,2,3,4,5,6,7,0] ⟨rfl,rfl,rfl,rfl,trivial⟩
      exact trivial
     have s4:∀(b12:Nat),J 5 [false,false,true,false,false,false] [(4,Pt b6),(7,Pt b9),(9,Pt b12)] [.obj b1 26 (.rep ag a0),.inv z5.2 (bJ k ((q3.1.1,q3.1.2.1,q3.1.2.2.1,q3.1.2.2.2),q3.2.1,q3.2.2)),.obj z5.1 80 (Qq q3 (.eq (.map (some z5.2)))),.obj b6 65 (.eq (.pointer (some ⟨z5.1,0,none⟩))),.obj b7 65 (.eq (.pointer (some ⟨z5.1,0,none⟩))),.obj b9 3 (I r8.2.1),.obj b12 74 (.eq (.chan none))]:=fun b12=>by
      subst hJ;refine JD.step [0,1,3] (by kernel_rfl) rfl ?_;refine ee.cons rfl ?_ ?_
      ·refine aA rfl rfl rfl (dj rfl qn) trivial fun z10=>?_;exact aQ (s5 z10 b12) [1,2,3,4,5,6,0,7] ⟨rfl,rfl,rfl,rfl,trivial⟩
      refine ee.cons rfl ?_ ?_
      ·refine aA rfl rfl rfl (dj rfl qn) trivial fun z11=>?_;exact aQ (s6 z11 b12) [1,2,3,4,5,6,0,7] ⟨rfl,rfl,rfl,rfl,trivial⟩
      refine ee.cons rfl ?_ ?_
      ·refine aA rfl rfl rfl (aF rfl rE rL) trivial fun b13=>?_;exact aQ (s12 b12 b13) [1,2,3,4,5,6,7,0] ⟨rfl,rfl,rfl,rfl,trivial⟩
      exact trivial
     have s8:∀(b13:Nat),J 5 [false,false,false,true,false,false] [(4,Pt b6),(7,Pt b9),(10,Pt b13)] [.obj b1 26 (.rep ag a0),.inv z5.2 (bJ k ((q3.1.1,q3.1.2.1,q3.1.2.2.1,q3.1.2.2.2),q3.2.1,q3.2.2)),.obj z5.1 80 (Qq q3 (.eq (.map (some z5.2)))),.obj b6 65 (.eq (.pointer (some ⟨z5.1,0,none⟩))),.obj b7 65 (.eq (.pointer (some ⟨z5.1,0,none⟩))),.obj b9 3 (I r8.2.1),.obj b13 74 (.eq (.chan none))]:=fun b13=>by
      subst hJ;refine JD.step [0,1,2] (by kernel_rfl) rfl ?_;refine ee.cons rfl ?_ ?_
      ·refine aA rfl rfl rfl (dj rfl qn) trivial fun z10=>?_;exact aQ (s9 z10 b13) [1,2,3,4,5,6,0,7] ⟨rfl,rfl,rfl,rfl,trivial⟩
      refine ee.cons rfl ?_ ?_
      ·refine aA rfl rfl rfl (dj rfl qn) trivial fun z11=>?_;exact aQ (s10 z11 b13) [1,2,3,4,5,6,0,7] ⟨rfl,rfl,rfl,rfl,trivial⟩
      refine ee.cons rfl ?_ ?_
      ·refine aA rfl rfl rfl (aF rfl rE rL) trivial fun b12=>?_;exact aQ (s12 b12 b13) [1,2,3,4,5,6,0,7] ⟨rfl,rfl,rfl,rfl,trivial⟩
      exact trivial
     have s0:J 6 [false,false,false,false,false,false] [(4,Pt b6),(7,Pt b9)] [.obj b1 26 (.rep ag a0),.inv z5.2 (bJ k ((q3.1.1,q3.1.2.1,q3.1.2.2.1,q3.1.2.2.2),q3.2.1,q3.2.2)),.obj z5.1 80 (Qq q3 (.eq (.map (some z5.2)))),.obj b6 65 (.eq (.pointer (some ⟨z5.1,0,none⟩))),.obj b7 65 (.eq (.pointer (some ⟨z5.1,0,none⟩))),.obj b9 3 (I r8.2.1)]:=by
      subst hJ;refine JD.step [0,1,2,3] (by kernel_rfl) rfl ?_;refine ee.cons rfl ?_ ?_
      ·refine aA rfl rfl rfl (dj rfl qn) trivial fun z10=>?_;exact aQ (s1 z10) [1,2,3,4,5,6,0] ⟨rfl,rfl,rfl,trivial⟩
      refine ee.cons rfl ?_ ?_
      ·refine aA rfl rfl rfl (dj rfl qn) trivial fun z11=>?_;exact aQ (s2 z11) [1,2,3,4,5,6,0] ⟨rfl,rfl,rfl,trivial⟩
      refine ee.cons rfl ?_ ?_
      ·refine aA rfl rfl rfl (aF rfl rE rL) trivial fun b12=>?_;exact aQ (s4 b12) [1,2,3,4,5,6,0] ⟨rfl,rfl,rfl,trivial⟩
      refine ee.cons rfl ?_ ?_
      ·refine aA rfl rfl rfl (aF rfl rE rL) trivial fun b13=>?_;exact aQ (s8 b13) [1,2,3,4,5,6,0] ⟨rfl,rfl,rfl,trivial⟩
      exact trivial
     exact s0
    rintro⟨z10,z11,b12,b13⟩;show JN _ _ [(4,Pt b6),(7,Pt b9),(9,Pt b12),(10,Pt b13)] [.obj b1 26 (.rep ag a0),.inv z5.2 (bJ k ((q3.1.1,q3.1.2.1,q3.1.2.2.1,q3.1.2.2.2),q3.2.1,q3.2.2)),.obj z5.1 80 (Qq q3 (.eq (.map (some z5.2)))),.obj b6 65 (.eq (.pointer (some ⟨z5.1,0,none⟩))),.obj b7 65 (.eq (.pointer (some ⟨z5.1,0,none⟩))),.obj b9 3 (I r8.2.1),.raw z10 (.chan 0 #[] false 0 0 false),.raw z11 (.chan 0 #[] false 0 0 false),.obj b12 74 (.eq (.chan (some z10))),.obj b13 74 (.eq (.chan (some z11)))];refine tn (ef 3 rfl ?_);refine ef 3 rfl ?_;refine eL (Gk (t:=di) (x:=((q3.1.1,q3.1.2.1,q3.1.2.2.1,q3.1.2.2.2),q3.2.1,q3.2.2,())) [] (.agg (.pair (.agg (.pair .rep (.pair .rep (.pair .rep .rep)))) (.pair .rep (.pair .rep (.ign rfl))))) trivial) ?_;refine eL (lV (t:=.ptr di) (x:=((q3.1.1,q3.1.2.1,q3.1.2.2.1,q3.1.2.2.2),q3.2.1,q3.2.2,())) [4] .ptr ⟨rfl,trivial⟩) ?_;refine ef 3 rfl ?_;refine eL (lV (t:=.int .i64) (x:=r8.2.1) [7] .int ⟨rfl,trivial⟩) ?_;refine ef 5 rfl ?_;refine eL (lV (t:=.val) (x:=.chan (some z10)) [9] (.val rfl) ⟨rfl,trivial⟩) ?_;refine ef 5 rfl ?_;refine eL (lV (t:=.val) (x:=.chan (some z11)) [10] (.val rfl) ⟨rfl,trivial⟩) ?_;refine eL (SE.fin (Γ':=[(4,.at (.ptr di) ((q3.1.1,q3.1.2.1,q3.1.2.2.1,q3.1.2.2.2),q3.2.1,q3.2.2,())),(7,.at (.int .i64) r8.2.1),(9,.at .val (.chan (some z10))),(10,.at .val (.chan (some z11)))]) (Δ':=[.raw z10 uT,.raw z11 uT]) [3,4] ⟨rfl,rfl,rfl,rfl,trivial⟩ rfl) ?_;obtain⟨rs,o,hN,hws,ho,h2,hp⟩:=zD (MU h);refine HM (q:=((q3.1.1,q3.1.2.1,q3.1.2.2.1,q3.1.2.2.2),q3.2.1,q3.2.2,())) (now:=r8.2.1) (rest:=[]) rfl hN hws ho ?_ (fun S v=>?_) (fun S v=>?_) (fun rc hrc=>?_)
    ·refine ah (ja (ao (t:=(.ptr di)) rfl ie rfl) ?_);refine ja (j9 rfl) ?_;refine ja (a8 4 true rfl eT rfl) ?_;refine ja (a8 1 false rfl bA rfl) ?_;refine ja (ao (t:=(.slice aw)) rfl eu rfl) ?_;refine ol l8 ?_;refine fg rfl ?_;refine aT (a7 ?_);exact tY (junk:=[]) (by repeat (first |exact trivial |refine⟨rfl,?_⟩)) te
    ·refine ah (cq ?_);refine aT (a7 ?_);exact tY (junk:=[]) (by repeat (first |exact trivial |refine⟨rfl,?_⟩)) te
    ·refine ah (ja (ao (t:=(.ptr di)) rfl ie rfl) ?_);refine ja (j9 rfl) ?_;refine ja (a8 4 true rfl eT rfl) ?_;refine ja (a8 1 false rfl bA rfl) ?_;refine ja (ao (t:=(.slice aw)) rfl eu rfl) ?_;refine ol l8 ?_;refine fg rfl ?_;refine aT (a7 ?_);exact tY (junk:=[]) (by repeat (first |exact trivial |refine⟨rfl,?_⟩)) te
    ·refine aj (ah ?_);refine mq ?_;refine ja (ak [.tmp 67] rfl rfl Ir rfl (iY k _ _ (hp rc hrc))) ?_;refine aq ?_;refine cq (nt (aG ?_));rw [h2];exact rb
end Go.Proofs.YtopgphikdglphaaGreat
namespace Go.Proofs.YtopgphikdglphaaGreat
open K Go Go.Proofs
def W{α:Type}(x:Option α)(Q:α→Prop):Prop:=∃a,x=some a∧Q a
namespace W
variable {α β ε:Type}{Q:β→Prop}
theorem ret{a:β}(h:Q a):W (some a) Q:=⟨a,rfl,h⟩
theorem mono{x:Option β}{R:β→Prop}(h:W x R)(hq:∀a,R a→Q a):W x Q:=let ⟨a,e,r⟩:=h;⟨a,e,hq a r⟩
theorem bind{x:Option α}{f:α→Option β}{R:α→Prop}(h:W x R)(hf:∀a,R a→W (f a) Q):W (x.bind f) Q:=by
 obtain⟨a,rfl,r⟩:=h;exact hf a r
theorem bindE{x:Option α}{a:α}{f:α→Option β}(h:x=some a)(hf:W (f a) Q):W (x.bind f) Q:=by rw [h];exact hf
theorem ck{n:Int}{f:Int→Option β}(h1: -9223372036854775808≤n)(h2:n≤9223372036854775807)(hf:W (f n) Q):W ((K.ck n).bind f) Q:=by
 rw [K.ck,if_pos ⟨h1,h2⟩];exact hf
theorem chk{p:Prop}[Decidable p]{f:Unit→Option β}(h:p)(hf:W (f ()) Q):W ((cF p).bind f) Q:=by
 rw [cF,if_pos h];exact hf
theorem at_{l:List α}{i:Int}{f:α→Option β}(h0:0≤i)(h1:i < l.length)(hf:∀x,l[i.toNat]? =some x→W (f x) Q):W ((aL l i).bind f) Q:=by
 have:i.toNat < l.length:=by omega
 rw [aL,if_pos h0,List.getElem?_eq_getElem this];exact hf _ (List.getElem?_eq_getElem this)
theorem sb{a:α}{f:α→Option β}(h:W (f a) Q):W ((some a).bind f) Q:=h
theorem bindEB{γ:Type}{x:Option α}{a:α}{f:α→Option γ}{g:γ→Option β}(h:x=some a)(hf:W ((f a).bind g) Q):W ((x.bind f).bind g) Q:=by rw [h];exact hf
theorem iteBB{γ:Type}{p:Prop}[Decidable p]{a b:Option α}{f:α→Option γ}{g:γ→Option β}(h1:p→W ((a.bind f).bind g) Q)(h2:¬p→W ((b.bind f).bind g) Q):W (((if p then a else b).bind f).bind g) Q:=by
 split
 ·exact h1 ‹_›
 ·exact h2 ‹_›
theorem sbB{γ:Type}{a:α}{f:α→Option γ}{g:γ→Option β}(h:W ((f a).bind g) Q):W (((some a).bind f).bind g) Q:=h
theorem chkB{γ:Type}{p:Prop}[Decidable p]{f:Unit→Option γ}{g:γ→Option β}(h:p)(hf:W ((f ()).bind g) Q):W (((cF p).bind f).bind g) Q:=by
 rw [cF,if_pos h];exact hf
theorem ite{p:Prop}[Decidable p]{a b:Option β}(h1:p→W a Q)(h2:¬p→W b Q):W (if p then a else b) Q:=by
 split
 ·exact h1 ‹_›
 ·exact h2 ‹_›
theorem iteB{p:Prop}[Decidable p]{a b:Option α}{f:α→Option β}(h1:p→W (a.bind f) Q)(h2:¬p→W (b.bind f) Q):W ((if p then a else b).bind f) Q:=by
 split
 ·exact h1 ‹_›
 ·exact h2 ‹_›
theorem bEE{x:Option (Except ε α)}{g:ε→Option β}{f:α→Option β}{R:Except ε α→Prop}(h:W x R)(hg:∀e,R (.error e)→W (g e) Q)(hf:∀a,R (.ok a)→W (f a) Q):W (K.bE x g f) Q:=by
 obtain⟨a,rfl,r⟩:=h;cases a with
 |error e=>exact hg e r
 |ok a=>exact hf a r
theorem loop{T:Type}{f:Nat→T→Option β}(I:Nat→T→Prop)(step:∀aH m y,I m y→(∀m' y',m' < m→I m' y'→W (f aH y') Q)→W (f (aH+1) y) Q):∀m aH y,m < aH→I m y→W (f aH y) Q:=by
 intro m
 induction m using Nat.strongRecOn with
 |_ m ih=>
  intro aH y hm hI;cases aH with
  |zero=>omega
  |succ aH=>exact step aH m y hI fun m' y' h hI'=>ih m' h aH y' (by omega) hI'
end W
theorem Gy(n:Int):0≤IntKind.u64.wrap n∧IntKind.u64.wrap n < 18446744073709551616:=by
 have h1:=Int.emod_nonneg n (show(18446744073709551616:Int)≠0 by decide);have h2:=Int.emod_lt_of_pos n (show(0:Int) < 18446744073709551616 by decide)
 have e:IntKind.u64.wrap n=n % 18446744073709551616:=by
  simp [IntKind.wrap,IntKind.signed,IntKind.bits]
 rw [e];exact⟨h1,h2⟩
theorem Ap{n:Int}(h0:0≤n)(h1:n < 18446744073709551616):IntKind.u64.wrap n=n:=by
 have e:IntKind.u64.wrap n=n % 18446744073709551616:=by
  simp [IntKind.wrap,IntKind.signed,IntKind.bits]
 rw [e];exact Int.emod_eq_of_lt h0 h1
def Lo(l:cr)(m:Int):Prop:=0≤l.2.1∧l.2.1≤m
theorem J8{k:Nat}{l:cr}{m:Int}(h:Lo l m)(hm:m≤1000000000):W (kg k l) fun r=>0≤r.1∧r.1 < 72057594037927936∧Lo r.2 (m+1):=by
 obtain⟨h0,h1⟩:=h;unfold kg
 have fin:∀x:Int,W ((K.ck (l.2.1+1)).bind fun x4=>some (kT .u64 (mf .u64 (IntKind.u64.wrap ((mf .u64 x (kT .u64 x (29:Int))) * (2685821657736338717:Int))) (kT .u64 (IntKind.u64.wrap ((mf .u64 x (kT .u64 x (29:Int))) * (2685821657736338717:Int))) (32:Int))) (8:Int),(l.1,x4,x)))
  fun r=>0≤r.1∧r.1 < 72057594037927936∧Lo r.2 (m+1):=fun x=>by
  refine W.ck (by omega) (by omega) (W.ret ?_)
  generalize IntKind.u64.wrap ((mf .u64 x (kT .u64 x (29:Int))) * (2685821657736338717:Int))=y
  have hx:0≤mf .u64 y (kT .u64 y 32)∧mf .u64 y (kT .u64 y 32) < 18446744073709551616:=Gy _
  have e:kT .u64 (mf .u64 y (kT .u64 y 32)) 8=(mf .u64 y (kT .u64 y 32)) / 256:=by
   unfold kT;rw [Int.fdiv_eq_ediv_of_nonneg _ (by decide)];rfl
  refine⟨?_,?_,?_,?_⟩
  ·
   show 0≤kT .u64 (mf .u64 y (kT .u64 y 32)) 8;rw [e];omega
  ·
   show kT .u64 (mf .u64 y (kT .u64 y 32)) 8 < _;rw [e];omega
  ·
   show 0≤l.2.1+1;omega
  ·
   show l.2.1+1≤m+1;omega
 refine W.iteB (fun hlt=>?_) (fun _=>fin _);cases hg:aL l.1 l.2.1 with
 |some v=>exact fin _
 |none=>
  exfalso;have:l.2.1.toNat < l.1.length:=by omega
  rw [aL,if_pos h0,List.getElem?_eq_getElem this] at hg;cases hg
theorem nI{k:Nat}{l:cr}{m n:Int}(h:Lo l m)(hm:m≤1000000000)(hn:n≤1000000000):W (cy k l n) fun r=>0≤r.1∧(0≤n→r.1≤n)∧Lo r.2 (m+1):=by
 unfold cy;refine W.ite (fun h1=>W.ret ⟨Int.le_refl 0,fun h=>h,h.1,by show l.2.1≤m+1;have:=h.2;omega⟩) (fun h1=>?_);refine W.bind (J8 h hm) fun r hr=>?_;refine W.ck (by omega) (by omega) ?_;have e:IntKind.u64.wrap (n+1)=n+1:=Ap (by omega) (by omega);refine W.chk (by rw [e];omega) ?_;rw [e];have h2:Int.tmod r.1 (n+1)=r.1 % (n+1):=Int.tmod_eq_emod_of_nonneg hr.1;have h3:=Int.emod_nonneg r.1 (show n+1≠0 by omega);have h4:=Int.emod_lt_of_pos r.1 (show 0 < n+1 by omega);rw [h2];refine W.ck (by omega) (by omega) (W.ret ⟨h3,fun _=>by show r.1 % (n+1)≤n;omega,hr.2.2⟩)
theorem yH{k:Nat}{l:cr}{m a b:Int}(h:Lo l m)(hm:m≤1000000000)(ha:0≤a)(hab:a≤b)(hb:b≤1000000):W (fE k l a b) fun r=>a≤r.1∧r.1≤b∧Lo r.2 (m+1):=by
 unfold fE;refine W.ck (by omega) (by omega) (W.bind (nI h hm (by omega)) fun r hr=>?_);have:=hr.2.1 (by omega);refine W.ck (by omega) (by omega) (W.ret ⟨by show a≤a+r.1;omega,by show a+r.1≤b;omega,hr.2.2⟩)
theorem vE{k:Nat}{l:cr}{m a:Int}(h:Lo l m)(hm:m≤1000000000)(ha:0≤a)(hb:a≤1000000):W (fC k l a) fun r=>Lo r.2 (m+1):=by
 unfold fC;exact W.ck (by omega) (by omega) (W.bind (nI h hm (by omega)) fun r hr=>W.ret hr.2.2)
theorem yu{k:Nat}{l:cr}{m:Int}{some_:List Int}(h:Lo l m)(hm:m≤1000000000)(h0:0 < some_.length)(h1:some_.length≤1000000):W (fD k l some_) fun r=>r.1∈some_∧Lo r.2 (m+1):=by
 unfold fD;refine W.ck (by omega) (by omega) (W.bind (nI h hm (by omega)) fun r hr=>?_);have:=hr.2.1 (by omega);refine W.at_ hr.1 (by omega) fun x hx=>W.ret ⟨List.mem_of_getElem? hx,hr.2.2⟩
theorem xx{k:Nat}{l:List Int}{x:Int}(hk:l.length < k)(hl:l.length≤1000000):W (lq k l x) fun r=>(0≤r↔x∈l):=by
 unfold lq
 have key:=W.loop (f:=mU k l x) (Q:=fun r=>match r with | .error e=>0≤e∧x∈l | .ok _=>x∉l)
  (fun m y=>0≤y∧y≤l.length∧m=l.length - y.toNat∧∀j:Nat,(j:Int) < y→l[j]? ≠some x) (fun aH m y hI ih=>by
   obtain⟨h0,h1,hm,hj⟩:=hI;unfold mU;refine W.ite (fun hlt=>W.at_ h0 hlt fun v hv=>W.ite (fun e=>W.ret ⟨h0,?_⟩) (fun e=>W.ck (by omega) (by omega) (ih (m - 1) _ (by omega) ⟨by omega,by omega,by omega,fun j hjy=>?_⟩))) (fun hge=>W.ret ?_)
   ·rw [←e];exact List.mem_of_getElem? hv
   ·by_cases hjy':(j:Int) < y
    ·exact hj j hjy'
    ·have:j=y.toNat:=by omega
     subst this;rw [hv];exact fun h=>e (Option.some.inj h)
   ·intro hx;obtain⟨j,hj'⟩:=List.mem_iff_getElem?.1 hx
    have:j < l.length:=by
     rcases Nat.lt_or_ge j l.length with h |h
     ·exact h
     ·rw [List.getElem?_eq_none h] at hj';cases hj'
    exact hj j (by omega) hj')
 refine W.bEE (key l.length k 0 hk ⟨Int.le_refl 0,by omega,by simp,fun j hj=>by omega⟩) (fun e he=>W.ret ⟨fun _=>he.2,fun _=>he.1⟩) (fun _ ho=>W.ret ⟨fun h=>by omega,fun h=>absurd h ho⟩)
def pL(c:ae)(M:Nat→Prop)(i:Nat):Prop:=
 ((((i:Int)∈c.2.2.1)∧¬((i:Int)∈c.2.2.2))∨(¬((i:Int)∈c.2.2.1)∧((i:Int)∈c.2.2.2)))∨
 ((i:Int)∈c.2.2.1∧(i:Int)∈c.2.2.2∧∃(k:Nat) (t:bp),c.1[k]? =some t∧M k∧(i:Int)∈t.1)
structure vl(c:ae):Prop where
 things:c.1.length≤8
 over:∀t∈c.1,t.1.length≤8
 wears:c.2.2.1.length≤8
 wants:c.2.2.2.length≤8
abbrev In(mv:List Bool)(i:Nat):Prop:=mv[i]? =some true
theorem Nh{k:Nat}(hk:50≤k){c:ae}{mv:List Bool}{again:Bool}{i:Nat}(hs:vl c)(hmv:mv.length=c.1.length){d0:Bool}:
 W (eA k c (mv,again,(i:Int)) k (d0,0)) fun d=>(d=true↔d0=true∨((i:Int)∈c.2.2.1∧(i:Int)∈c.2.2.2∧∃(q:Nat) (t:bp),c.1[q]? =some t∧In mv q∧(i:Int)∈t.1)):=by
 have h8:=hs.things
 refine W.loop (f:=eA k c (mv,again,(i:Int))) (fun m y=>0≤y.2∧y.2≤c.1.length∧m=c.1.length - y.2.toNat∧
  (y.1=true↔d0=true∨((i:Int)∈c.2.2.1∧(i:Int)∈c.2.2.2∧∃(q:Nat) (t:bp),(q:Int) < y.2∧c.1[q]? =some t∧In mv q∧(i:Int)∈t.1))) ?_ c.1.length k (d0,0) (by omega)
  ⟨Int.le_refl 0,by simp,by simp,⟨fun h=>.inl h,fun h=>h.elim id fun⟨_,_,q,_,hq,_⟩=>by simp only at hq;omega⟩⟩
 rintro aH m ⟨d,y⟩ ⟨h0,h1,hm,hd⟩ ih
 simp only at h0 h1 hm hd ih
 unfold eA
 have fin:(¬y < (c.1.length:Int)∨¬((i:Int)∈c.2.2.1∧(i:Int)∈c.2.2.2))→(d=true↔d0=true∨((i:Int)∈c.2.2.1∧(i:Int)∈c.2.2.2∧∃(q:Nat) (t:bp),c.1[q]? =some t∧In mv q∧(i:Int)∈t.1)):=by
  intro hc;rw [hd];constructor
  ·rintro(h |⟨a,b,q,t,_,h2,h3,h4⟩)
   ·exact .inl h
   ·exact .inr ⟨a,b,q,t,h2,h3,h4⟩
  ·rintro(h |⟨a,b,q,t,h2,h3,h4⟩)
   ·exact .inl h
   ·refine .inr ⟨a,b,q,t,?_,h2,h3,h4⟩
    have hq:q < c.1.length:=by
     rcases Nat.lt_or_ge q c.1.length with h |h
     ·exact h
     ·rw [List.getElem?_eq_none h] at h2;cases h2
    rcases hc with hc |hc
    ·omega
    ·exact absurd ⟨a,b⟩ hc
 have goes:y < (c.1.length:Int)→(i:Int)∈c.2.2.1→(i:Int)∈c.2.2.2→W ((if d=true then some true else(aL mv y).bind fun x26=>if x26=true then(aL c.1 y).bind fun x27=>(lq k x27.1 (i:Int)).bind fun r28=>some (decide (0≤r28)) else some false).bind fun x24=>
  (K.ck (y+1)).bind fun x29=>eA k c (mv,again,(i:Int)) aH (x24,x29)) fun d=>(d=true↔d0=true∨((i:Int)∈c.2.2.1∧(i:Int)∈c.2.2.2∧∃(q:Nat) (t:bp),c.1[q]? =some t∧In mv q∧(i:Int)∈t.1)):=by
  intro hlt hw hv
  have next:∀e:Bool,(e=true↔d=true∨∃t,c.1[y.toNat]? =some t∧In mv y.toNat∧(i:Int)∈t.1)→W ((K.ck (y+1)).bind fun x29=>eA k c (mv,again,(i:Int)) aH (e,x29)) fun d=>(d=true↔d0=true∨((i:Int)∈c.2.2.1∧(i:Int)∈c.2.2.2∧∃(q:Nat) (t:bp),c.1[q]? =some t∧In mv q∧(i:Int)∈t.1)):=by
   intro e he;refine W.ck (by omega) (by omega) (ih (m - 1) (e,y+1) (by omega) ⟨by simp only;omega,by simp only;omega,by simp only;omega,?_⟩);simp only;rw [he,hd];constructor
   ·rintro((h |⟨a,b,q,t,h1,h2,h3,h4⟩) |⟨t,h2,h3,h4⟩)
    ·exact .inl h
    ·exact .inr ⟨a,b,q,t,by omega,h2,h3,h4⟩
    ·exact .inr ⟨hw,hv,y.toNat,t,by omega,h2,h3,h4⟩
   ·rintro(h |⟨a,b,q,t,h1,h2,h3,h4⟩)
    ·exact .inl (.inl h)
    ·by_cases hq:(q:Int) < y
     ·exact .inl (.inr ⟨a,b,q,t,hq,h2,h3,h4⟩)
     ·have:q=y.toNat:=by omega
      subst this;exact .inr ⟨t,h2,h3,h4⟩
  refine W.iteB (fun hdt=>next true ⟨fun _=>.inl hdt,fun _=>rfl⟩) (fun hdf=>?_);cases hg:aL mv y with
  |none=>exfalso;rw [aL,if_pos h0,List.getElem?_eq_getElem (by omega)] at hg;cases hg
  |some b=>
   have hb:mv[y.toNat]? =some b:=by rw [aL,if_pos h0] at hg;exact hg
   show W ((if b=true then _ else _:Option Bool).bind _) _;refine W.iteB (fun hbt=>?_) (fun hbf=>next false ⟨fun h=>(by cases h),fun h=>h.elim (fun h=>absurd h hdf) fun⟨t,_,h3,_⟩=>by have:some b=some true:=hb.symm.trans h3;exact absurd (Option.some.inj this) hbf⟩);cases hc:aL c.1 y with
   |none=>exfalso;rw [aL,if_pos h0,List.getElem?_eq_getElem (by omega)] at hc;cases hc
   |some t=>
    have ht:c.1[y.toNat]? =some t:=by rw [aL,if_pos h0] at hc;exact hc
    have hto:=hs.over t (List.mem_of_getElem? ht);obtain⟨r,hr,hri⟩:=xx (k:=k) (l:=t.1) (x:=(i:Int)) (by omega) (by omega);show W (((lq k t.1 (i:Int)).bind fun r28=>some (decide (0≤r28))).bind _) _;rw [hr];refine next (decide (0≤r)) ⟨fun h=>.inr ⟨t,ht,by rw [In,hb,hbt],hri.1 (of_decide_eq_true h)⟩,fun h=>?_⟩;rcases h with h |⟨t',ht',_,hi⟩
    ·exact absurd h hdf
    ·have:t=t':=Option.some.inj (ht.symm.trans ht');subst this;exact decide_eq_true (hri.2 hi)
 obtain⟨r1,e1,i1⟩:=xx (k:=k) (l:=c.2.2.1) (x:=(i:Int)) (by have:=hs.wears;omega) (by have:=hs.wears;omega)
 obtain⟨r2,e2,i2⟩:=xx (k:=k) (l:=c.2.2.2) (x:=(i:Int)) (by have:=hs.wants;omega) (by have:=hs.wants;omega)
 refine W.iteB (fun hlt=>?_) (fun hge=>?_)
 ·
  rw [e1];show W ((if 0≤r1 then _ else _:Option Bool).bind _) _;refine W.iteB (fun hr1=>?_) (fun hr1=>?_)
  ·rw [e2];show W (if decide (0≤r2)=true then _ else _) _;refine W.ite (fun hr2=>goes hlt (i1.1 hr1) (i2.1 (of_decide_eq_true hr2))) (fun hr2=>W.ret (fin (.inr fun h=>hr2 (decide_eq_true (i2.2 h.2)))))
  ·exact W.ret (fin (.inr fun h=>hr1 (i1.2 h.1)))
 ·
  exact W.ret (fin (.inl hge))
end Go.Proofs.YtopgphikdglphaaGreat
