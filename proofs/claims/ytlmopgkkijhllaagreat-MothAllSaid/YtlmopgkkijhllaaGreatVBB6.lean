import Derived.Maps.Keyed
import Derived.Test.YtlmopgkkijhllaaGreatVBF1
import Derived.Conc.CrowdTrace
import Derived.Conc.CrowdSel
import Derived.Conc.LeavingOf
import Derived.Conc.QuitsD
import Derived.Conc.CrowdComm
import Derived.Conc.JoinWorld
set_option linter.unusedSimpArgs false
set_option linter.unusedVariables false
namespace Go.Proofs.YtlmopgkkijhllaaGreat
namespace K
open Go
def vm{Y:Type}(P:Program)(k:TypeId)(V:Y→Value)(R:Value→Y→Prop)(o:Obj):Prop:=
 ∃es cl,o= .map es cl∧∀e∈es.toList,(∃lt,keyOf P k e.key=some lt)∧kO e.key=true∧∃n,e.val=V n∧R e.key n
theorem vm.nil{Y:Type}{P:Program}{k:TypeId}{V:Y→Value}{R:Value→Y→Prop}:vm P k V R (.map #[] 0):=⟨#[],0,rfl,by simp⟩
theorem vm.calm{Y:Type}{P:Program}{k:TypeId}{V:Y→Value}{R:Value→Y→Prop}{o:Obj}(h:vm P k V R o):calm o=true:=by
 obtain⟨es,cl,rfl,h⟩:=h;show(es.toList.all fun e=>kO e.key)=true;rw [List.all_eq_true];exact fun e he=>(h e he).2.1
section
variable {Y:Type}{P:Program}{M:Md P}{o:Oper}{x y v:Operand}{T T' k e:TypeId}{V:Y→Value}{R:Value→Y→Prop}{kv:Value}
theorem vT{z:Nat}{ob:Obj}(hT:P.underlying T=some (.map k e))(z0:Y)(hz:∀w,(zeroValue e).run P w= .ok (V z0) w)(hk:Maps.Keyed P k)(hkv:∃lt,keyOf P k kv=some lt)
 (hfun:∀n n',R kv n→R kv n'→n=n') (hob:vm P k V R ob):
 ∃n b,(b=true→R kv n)∧(b=false→n=z0)∧∀w,w.heap[z]? =some ob→(Instr.lookup T (.map (some z)) kv true).run P w= .ok (.tuple #[V n,.bool b]) w:=by
 obtain⟨es,cl,rfl,h2⟩:=hob
 obtain⟨lt,hlt⟩:=hkv
 by_cases he:∃en∈es.toList,en.key=kv
 ·
  obtain⟨e0,he0,hk0⟩:=he;obtain⟨_,_,n0,_,hR0⟩:=h2 e0 he0;rw [hk0] at hR0;refine⟨n0,true,fun _=>hR0,fun h=>Bool.noConfusion h,fun w h1=>?_⟩;have hc:=hk.check w es.isEmpty hlt;rcases hk.find w hlt es.toList (fun e he=>(h2 e he).1) with⟨h3,h4⟩ |⟨j,en,h3,h4,h5⟩
  ·exact absurd hk0 (h4 e0 he0)
  ·obtain⟨_,_,n,hn,hR⟩:=h2 en (List.mem_of_getElem? h4);rw [h5] at hR;obtain rfl:=hfun _ _ hR hR0;simp only [Instr.lookup,Sem.run_bind,run_underlying hT,Result.andThen_ok,fK h1,Sem.run_pure,hc,h3,hn,if_true]
 ·
  refine⟨z0,false,fun h=>Bool.noConfusion h,fun _=>rfl,fun w h1=>?_⟩;have hc:=hk.check w es.isEmpty hlt;rcases hk.find w hlt es.toList (fun e he=>(h2 e he).1) with⟨h3,h4⟩ |⟨j,en,h3,h4,h5⟩
  ·simp only [Instr.lookup,Sem.run_bind,run_underlying hT,Result.andThen_ok,fK h1,Sem.run_pure,hc,h3,hz,if_true]
  ·exact absurd ⟨en,List.mem_of_getElem? h4,h5⟩ he
theorem EE{z:Nat}{rk:A}{ob:Obj}{n:Y}{b:Bool}(r:Y→A)(hV:∀S w,(r n).holds S w (V n))(hnk:kO kv=true)(hcm:calm ob=true)(ho:o.op= .lookup T x y true)(hy:∀S w u,rk.holds S w u→u=kv)
 (hr:∀w,w.heap[z]? =some ob→(Instr.lookup T (.map (some z)) kv true).run P w= .ok (.tuple #[V n,.bool b]) w):
 bo M o [(x,.eq (.map (some z))),(y,rk)] [.raw z ob] (fun _:Unit=>(.tup (.pair (r n) (.pair (.eq (.bool b)) .any)),[.raw z ob])):=by
 refine vB.T ⟨by simp only [nd, *],fun S w a next hd hN hO kk=>?_⟩ (fun S w a hN _=>Da ho (by have e:a.eval y=kv:=hy _ _ _ hN.2.1;rw [e];exact hnk)) (fun d hd=>by rw [List.mem_singleton.1 hd];exact hcm)
 have e1:a.eval x= .map (some z):=hN.1
 have e2:a.eval y=kv:=hy S w _ hN.2.1
 have h1:w.heap[z]? =some ob:=hO.holds _ (List.mem_singleton.2 rfl)
 have hrun:(execOp a.eval o).run P w= .ok (.value (.tuple #[V n,.bool b])) w:=by
  simp only [execOp,ho,e1,e2,Sem.run_bind,hr w h1,Result.andThen_ok,Sem.run_pure]
 rw [hrun]
 exact kk () S w _ (jZ.refl hd) ⟨[_,_],rfl,_,_,rfl,hV _ _,_,_,rfl,rfl,rfl⟩ hO (fun b hb=>.inl hb)
theorem xC{z:Nat}{rk:A}{n:Y}{rv:A}(hV:∀S w u,rv.holds S w u→u=V n)(hnk:kO kv=true)(ho:o.op= .mapUpdate T x y v)(hT:P.underlying T=some (.map k e))(hk:Maps.Keyed P k)(hy:∀S w u,rk.holds S w u→u=kv)(hkv:∃lt,keyOf P k kv=some lt)(hR:R kv n):
 bo M o [(x,.eq (.map (some z))),(y,rk),(v,rv)] [.inv z (vm P k V R)] (fun _:Unit=>(.eq undef,[.inv z (vm P k V R)])):=by
 refine vB.T ⟨by simp only [nd, *],fun S w a next hd hN hO kk=>?_⟩ (fun S w a hN _=>C5 ho (by have e:a.eval y=kv:=hy _ _ _ hN.2.1;rw [e];exact hnk)) (fun d hd=>by rw [List.mem_singleton.1 hd];exact fun _ h=>h.calm)
 have e1:a.eval x= .map (some z):=hN.1
 have e2:a.eval y=kv:=hy S w _ hN.2.1
 have e3:a.eval v=V n:=hV _ _ _ hN.2.2.1
 obtain⟨ob,h1,es,cl,rfl,h2⟩:=hO.holds _ (List.mem_singleton.2 rfl)
 have hb:=hO.own z ⟨_,List.mem_singleton.2 rfl,rfl⟩
 obtain⟨lt,hlt⟩:=hkv
 have hc:=hk.check w false hlt
 have hgo:∀ob',(Instr.mapUpdate T (.map (some z)) kv (V n)).run P w= .ok () (w.putObj z ob')→vm P k V R ob'→Rr o a next ((execOp a.eval o).run P w):=fun ob' hr hM=>by
  have hrun:(execOp a.eval o).run P w= .ok .skip (w.putObj z ob'):=by
   simp only [execOp,ho,e1,e2,e3,Sem.run_bind,hr,Result.andThen_ok,Sem.run_pure]
  rw [hrun];refine kk () S _ _ (nT hd ⟨_,List.mem_singleton.2 rfl,rfl⟩ ob') rfl (fS ⟨ob',xw hb.2,hM⟩ fun b h=>?_) (fun b hb=>.inl hb);simp only [D.foot,Option.some.injEq] at h;subst h;exact⟨hb.1,by rw [oc];exact hb.2⟩
 rcases hk.find w hlt es.toList (fun e he=>(h2 e he).1) with⟨h3,h4⟩ |⟨j,en,h3,h4,h5⟩
 ·
  refine hgo (.map (es.push { key:=kv,val:=V n,born:=cl }) (cl+1)) ?_ ⟨_,_,rfl,fun e he=>?_⟩
  ·simp only [Instr.mapUpdate,Sem.run_bind,run_underlying hT,Result.andThen_ok,fK h1,Sem.run_pure,hc,h3,kX _ h1]
  ·simp only [Array.toList_push,List.mem_append,List.mem_singleton] at he;rcases he with he |rfl
   ·exact h2 e he
   ·exact⟨⟨lt,hlt⟩,hnk,n,rfl,hR⟩
 ·
  have hst:=hk.stays w hlt;have hj:es[j]? =some en:=by simpa using h4
  refine hgo (.map (es.modify j fun e=>{ e with key:=kv,val:=V n }) cl) ?_ ⟨_,_,rfl,fun e he=>?_⟩
  ·simp only [Instr.mapUpdate,Sem.run_bind,run_underlying hT,Result.andThen_ok,fK h1,Sem.run_pure,hc,h3,hj,Option.map_some,Option.getD_some,h5,hst,kX _ h1]
  ·obtain⟨i,hi⟩:=List.mem_iff_getElem?.1 he;have hi':(es.modify j fun e=>{ e with key:=kv,val:=V n })[i]? =some e:=by rw [←Array.getElem?_toList];exact hi
   rw [Array.getElem?_modify] at hi';split at hi'
   ·obtain⟨e0,_,rfl⟩:=Option.map_eq_some_iff.1 hi';exact⟨⟨lt,hlt⟩,hnk,n,rfl,hR⟩
   ·exact h2 e (List.mem_of_getElem? (by simpa using hi'))
end
end K
end Go.Proofs.YtlmopgkkijhllaaGreat
set_option linter.unusedVariables false
set_option maxRecDepth 4000
set_option maxHeartbeats 1000000
namespace Go.Proofs.YtlmopgkkijhllaaGreat
open K Go Go.Proofs
abbrev sP:List (List Int):=[[(0:Int),(0:Int),(0:Int),(0:Int),(0:Int)],[(0:Int),(0:Int),(0:Int),(0:Int),(0:Int)],[(0:Int),(0:Int),(0:Int),(0:Int),(0:Int)],[(0:Int),(0:Int),(0:Int),(0:Int),(0:Int)],[(0:Int),(0:Int),(0:Int),(0:Int),(0:Int)],[(0:Int),(0:Int),(0:Int),(0:Int),(0:Int)],[(0:Int),(0:Int),(0:Int),(0:Int),(0:Int)]]
def bH(k:Nat)(a0:ag):Nat→((List (List Int))×Int)→Option (List (List Int))
 |0,_=>none
 |n+1,y7=>
  if y7.2 < (a0.2.2.2.2.1.length:Int) then((ck (y7.2+(1:Int))).bind fun x9=>
  (cF (0≤y7.2∧y7.2 < 7)).bind fun _=>
  (aO y7.1 y7.2).bind fun x11=>
  (gz k a0 x11 y7.2).bind fun r12=>
  (cF (0≤x9∧x9 < 7)).bind fun _=>
  (ck (y7.2+(1:Int))).bind fun x14=>
  bH k a0 n (List.set y7.1 (Int.toNat x9) r12,x14)) else(some y7.1)
def jm(k:Nat)(a0:ag)(a1:Int):Option (List (List Int)):=
 (eK k a0 a1).bind fun r3=>
 (cF (0≤(0:Int)∧(0:Int) < 7)).bind fun _=>
 ((bH k a0 k (List.set sP (Int.toNat (0:Int)) r3,(0:Int))):Option ((List (List Int)))).bind fun x5=>
 some x5
theorem E1:ah Tryz.prog 75:=ah.of Tryz.func75 (by kernel_rfl) (by kernel_rfl)
theorem E0:ah Tryz.prog 76:=ah.of Tryz.func76 (by kernel_rfl) (by kernel_rfl)
noncomputable def Iw:Nat→Code
 |0=>match Tryz.f35.body with |some (.seq r _)=>r |_=>.skip
 |1=>match Tryz.f35.body with |some (.seq _ (.seq r _))=>r |_=>.skip
 |2=>match Tryz.f35.body with |some (.seq _ (.seq _ (.seq r _)))=>r |_=>.skip
 |3=>match Tryz.f35.body with |some (.seq _ (.seq _ (.seq _ (.seq r _))))=>r |_=>.skip
 |4=>match Tryz.f35.body with |some (.seq _ (.seq _ (.seq _ (.seq _ (.seq r _)))))=>r |_=>.skip
 |5=>match Tryz.f35.body with |some (.seq _ (.seq _ (.seq _ (.seq _ (.seq _ (.seq r _))))))=>r |_=>.skip
 |6=>match Tryz.f35.body with |some (.seq _ (.seq _ (.seq _ (.seq _ (.seq _ (.seq _ (.seq r _)))))))=>r |_=>.skip
 |7=>match Tryz.f35.body with |some (.seq _ (.seq _ (.seq _ (.seq _ (.seq _ (.seq _ (.seq _ (.seq r _))))))))=>r |_=>.skip
 |8=>match Tryz.f35.body with |some (.seq _ (.seq _ (.seq _ (.seq _ (.seq _ (.seq _ (.seq _ (.seq _ (.seq r _)))))))))=>r |_=>.skip
 |9=>match Tryz.f35.body with |some (.seq _ (.seq _ (.seq _ (.seq _ (.seq _ (.seq _ (.seq _ (.seq _ (.seq _ (.seq r _))))))))))=>r |_=>.skip
 |10=>match Tryz.f35.body with |some (.seq _ (.seq _ (.seq _ (.seq _ (.seq _ (.seq _ (.seq _ (.seq _ (.seq _ (.seq _ (r)))))))))))=>r |_=>.skip
 |_=>.skip
section
variable {M:Md Tryz.prog}{bm:Nat}{c0 c1 c2 c3 c4 c5:Value}{S:FS}{w0:VW}{X:Nat→Prop}{df:List Deferred}{b1 b2:Nat}{k:Nat}{a0:ag}{a1:Int}{y1:List (List Int)}
@[reducible] noncomputable def sQ (bm:Nat) (c0 c1 c2 c3 c4 c5:Value) (a0:ag) (a1:Int) (b1 b2:Nat):Ga:=[(0,.rep (.mo (.pointer (some ⟨bm,0,none⟩)) [c0,c1,c2,c3,c4,c5] aj) a0),(1,.eq (.int .u8 a1)),(4,.eq (.pointer (some ⟨b1,0,none⟩))),(5,.eq (.pointer (some ⟨b2,0,none⟩)))]
@[reducible] noncomputable def AI (b1 b2:Nat) (y:List (List Int)):List D:=[.obj b1 77 (.rep (.arr 7 (.arr 5 (.int .i64))) sP),.obj b2 77 (.rep (.arr 7 (.arr 5 (.int .i64))) y)]
@[reducible] noncomputable def np (M:Md Tryz.prog) (S:FS) (w0:VW) (X:Nat→Prop) (df:List Deferred):Cx:=⟨Tryz.prog,64,S,w0,X,none,df,M⟩
theorem It(hK:Kn M bm 0 [c0,c1,c2,c3,c4,c5]){y r:List (List Int)}(h:bH k a0 k (y,(0:Int))=some r):
 JC (np M S w0 X df) (Iw 6) (bS (fun a w=>St (np M S w0 X df) (sQ bm c0 c1 c2 c3 c4 c5 a0 a1 b1 b2) (AI b1 b2 r) a w) (fun _ _ _=>False)) (sQ bm c0 c1 c2 c3 c4 c5 a0 a1 b1 b2) (AI b1 b2 y):=by
 replace h:(((bH k a0 k (y,(0:Int))):Option (List (List Int))).bind some).bind some=some r:=by rw [h];rfl
 refine cg ?_
 refine ae ?_
 refine gU rfl rfl ?_
 refine bY rfl (kZ rfl) ⟨rfl,trivial⟩ ?_
 refine bY rfl (gx rfl gP) ⟨rfl,trivial⟩ ?_
 refine bY rfl (ix 1 false rfl eG rfl rfl) ⟨rfl,trivial⟩ ?_
 refine bY rfl (jj (t:=(.slice (.slice (.slice (.int .i64))))) rfl lG (hK.sub 4 1 rfl (Nat.le_of_ble_eq_true rfl)) rfl rfl) ⟨rfl,trivial⟩ ?_
 refine bY rfl (ta rfl rfl Tryz.underlying22) ⟨rfl,trivial⟩ ?_
 refine fa rfl ?_
 refine be ?_
 refine ax ?_
 show JC _ _ _ _ _
 refine I7 (Z:=Unit) (α:=(List (List Int))) (fun z6 x5=>[(0,.rep (.mo (.pointer (some ⟨bm,0,none⟩)) [c0,c1,c2,c3,c4,c5] aj) a0),(1,.eq (.int .u8 a1)),(4,.eq (.pointer (some ⟨b1,0,none⟩))),(5,.eq (.pointer (some ⟨b2,0,none⟩)))]) (fun z6 x5=>[.obj b1 77 (.rep (.arr 7 (.arr 5 (.int .i64))) sP),.obj b2 77 (.rep (.arr 7 (.arr 5 (.int .i64))) x5)]) h (fun K h=>?_) (fun z6 x5 h=>?_)
 ·
  refine ak ?_;refine aK (Z:=Unit) (α:=(List (List Int))×Int) (fun z8 y7=>[(0,.rep (.mo (.pointer (some ⟨bm,0,none⟩)) [c0,c1,c2,c3,c4,c5] aj) a0),(1,.eq (.int .u8 a1)),(4,.eq (.pointer (some ⟨b1,0,none⟩))),(5,.eq (.pointer (some ⟨b2,0,none⟩))),(36,.eq (.int .i64 (a0.2.2.2.2.1.length:Int))),(37,.eq (.int .i64 y7.2))]) (fun z8 y7=>[.obj b1 77 (.rep (.arr 7 (.arr 5 (.int .i64))) sP),.obj b2 77 (.rep (.arr 7 (.arr 5 (.int .i64))) y7.1)]) (bH k a0) k () (y,(0:Int)) (fun _=>rfl) h (SE.fin [0,1] ⟨rfl,rfl,rfl,rfl,rfl,rfl,trivial⟩ rfl) (fun n z8 y7 h=>?_);unfold bH at h;refine cg ?_;refine ae ?_;refine bY rfl (bB rfl) ⟨rfl,rfl,trivial⟩ ?_;refine be ?_;refine ax ?_;show JC _ _ _ _ _;refine cg ?_;refine jg rfl (fun hb=>?_) (fun hb=>?_)
  ·replace h:=fe (tU hb) h;refine je ?_;refine ax ?_;show JC _ _ _ _ _;refine cg ?_;refine ak ?_;refine cg ?_;refine ae ?_;refine gU rfl rfl ?_;refine vo rfl rfl ?_;refine be ?_;refine ax ?_;show JC _ _ _ _ _;refine ae ?_;refine gU rfl rfl ?_;obtain⟨x9,ex9,h⟩:=aa h;refine bY rfl (bA rfl ex9) ⟨rfl,rfl,trivial⟩ ?_;refine gU rfl rfl ?_;refine gU rfl rfl ?_;obtain⟨u10,eu10,h⟩:=aa h;refine bY rfl (dI rfl Tryz.underlying77 gV (ao eu10).1 (ao eu10).2) ⟨rfl,rfl,trivial⟩ ?_;obtain⟨x11,ex11,h⟩:=aa h;refine j7 1 rfl ?_;refine mf rfl rfl rfl (mY (t:=(.arr 5 (.int .i64))) (off:=0) (i:=y7.2) (N:=7) rfl gV (qV) rfl rfl rfl rfl ex11) ⟨rfl,trivial⟩ ?_;refine gU rfl rfl ?_;obtain⟨r12,er12,h⟩:=aa h;have cr12:=qX hK k a0 x11 y7.2 r12 er12;refine bY rfl (aJ [.tmp 42,.tmp 45,.tmp 46] rfl rfl E0 rfl cr12) ⟨rfl,rfl,rfl,trivial⟩ ?_;obtain⟨u13,eu13,h⟩:=aa h;refine bY rfl (dI rfl Tryz.underlying77 gV (ao eu13).1 (ao eu13).2) ⟨rfl,rfl,trivial⟩ ?_;refine aR rfl rfl (gr (t:=(.arr 5 (.int .i64))) (off:=0) (i:=x9) (N:=7) rfl gV .rep rfl rfl rfl rfl (ao eu13).1 (ao eu13).2 rfl) ⟨rfl,rfl,trivial⟩ ?_;refine be ?_;refine gC ?_;refine ax ?_;show JC _ _ _ _ _;refine ae ?_;obtain⟨x14,ex14,h⟩:=aa h;refine bY rfl (bA rfl ex14) ⟨rfl,rfl,trivial⟩ ?_;refine gU rfl rfl ?_;refine be ?_;refine ax ?_;exact vp ((),(List.set y7.1 (Int.toNat x9) r12,x14)) h (SE.fin [1,0] ⟨rfl,rfl,rfl,rfl,rfl,rfl,trivial⟩ rfl)
  ·replace h:=cS (tV hb) h;refine yu ?_;refine mM ?_;refine mM ?_;refine qz ?_;refine ax ?_;exact vp ((),y7.1) h (SE.fin [0,1] ⟨rfl,rfl,rfl,rfl,trivial⟩ rfl)
 ·
  obtain rfl:x5=r:=Option.some.inj h;exact fun _ _ h=>h
theorem EY(hK:Kn M bm 0 [c0,c1,c2,c3,c4,c5]){r:List Int}(h:eK k a0 a1=some r):
 JC (np M S w0 X df) (Iw 5) (bS (fun a w=>St (np M S w0 X df) (sQ bm c0 c1 c2 c3 c4 c5 a0 a1 b1 b2) (AI b1 b2 (List.set sP 0 r)) a w) (fun _ _ _=>False)) (sQ bm c0 c1 c2 c3 c4 c5 a0 a1 b1 b2) (AI b1 b2 sP):=by
 refine ae ?_
 refine gU rfl rfl ?_
 refine gU rfl rfl ?_
 have cr3:=qc hK k a0 a1 r h
 refine bY rfl (aJ [.tmp 27,.tmp 28] rfl rfl E1 rfl cr3) ⟨rfl,rfl,trivial⟩ ?_
 refine j7 1 rfl ?_
 refine bY rfl (dI rfl Tryz.underlying77 gV (by decide) (by decide)) ⟨rfl,rfl,trivial⟩ ?_
 refine aR rfl rfl (gr (t:=(.arr 5 (.int .i64))) (off:=0) (i:=(0:Int)) (N:=7) rfl gV .rep rfl rfl rfl rfl (by decide) (by decide) rfl) ⟨rfl,rfl,trivial⟩ ?_
 refine be ?_
 refine ax ?_
 exact jd (junk:=[]) (by repeat (first |exact trivial |refine⟨rfl,?_⟩)) (List.Perm.swap ..)
end
end Go.Proofs.YtlmopgkkijhllaaGreat
namespace Go.Proofs.YtlmopgkkijhllaaGreat
namespace K
open Go Go.Conc
def blk:Loc→Option Nat
 | .cell a=>some a.block
 | .obj b=>some b
 |_=>none
theorem ru{v:VW}{n b:Nat}{e:Event}(h:lC v n e)(hb:blk e.loc=some b):b < n∧¬v.A b∧(e.write=true→¬v.Z b):=by
 unfold lC at h;unfold blk at hb;split at h
 ·rename_i a ha;rw [ha] at hb;cases hb;exact h.2
 ·rename_i r hr;rw [hr] at hb;cases hb;exact h.2
 ·rename_i m hm;rw [hm] at hb;cases hb
 ·exact h.elim
theorem yi{l:Loc}(h:l.isMemory=true):∃b,blk l=some b:=by
 cases l <;> first |exact⟨_,rfl⟩ |cases h
theorem uW{v:VW}{n:Nat}{e:Event}(h:lC v n e):e.loc≠.mark .disable∧e.loc≠.mark .enable:=by
 unfold lC at h;constructor <;> (intro he;rw [he] at h;cases h)
structure vA(n z:Nat)(t:Trace):Prop where
 num:∀op∈t,op.g < n
 race:∀said,¬Race said t
 inb:∀j x b,touchAt t j=some x→blk x.loc=some b→b < z
 norel:∀op∈t,∀a,op.act≠.mark (.release a)
theorem uq{v:VW}{n i:Nat}{fn:FuncId}{pos:String}{es:Array Event}(h:∀e∈es,lC v n e):∀op∈MemOp.ofEvents i fn pos es,op.g=i∧(∀m,op.act= .mark m→Pl m=true)∧(∀x,op.act.touch? =some x→∃e∈es,x=⟨e.loc,e.write,.plain⟩):=by
 intro op hop;unfold MemOp.ofEvents at hop;split at hop
 ·simp at hop
 ·obtain⟨e,he,rfl⟩:=Array.mem_map.1 hop;refine⟨rfl,?_,?_⟩
  ·intro m hm;have h0:=h e he;obtain⟨l,wr,sy⟩:=e;unfold lC at h0;cases l with
   |cell a=>simp [MemAct.ofEvent] at hm
   |obj b=>
    obtain⟨rfl,_⟩:=h0;cases wr <;> simp [MemAct.ofEvent] at hm
   |mark m'=>
    simp only [MemAct.ofEvent,MemAct.mark.injEq] at hm;subst hm;exact h0
   |_=>exact h0.elim
  ·intro x hx;have h0:=h e he;refine⟨e,he,?_⟩;obtain⟨l,wr,sy⟩:=e;unfold lC at h0;cases l with
   |cell a=>
    obtain⟨rfl,_⟩:=h0;simpa [MemAct.ofEvent,MemAct.touch?,eq_comm] using hx
   |obj b=>
    obtain⟨rfl,_⟩:=h0;cases wr <;> simpa [MemAct.ofEvent,MemAct.touch?,eq_comm] using hx
   |mark m'=>
    have h0:Pl m'=true:=h0;cases m' <;> first |(cases h0;done) |simp [MemAct.ofEvent,MemAct.touch?] at hx
   |_=>exact h0.elim
theorem vA.mono{n n' z z':Nat}{t:Trace}(h:vA n z t)(hn:n≤n')(hz:z≤z'):vA n' z' t:=⟨fun op ho=>Nat.lt_of_lt_of_le (h.num op ho) hn,h.race,fun j x b hx hb=>Nat.lt_of_lt_of_le (h.inb j x b hx hb) hz,h.norel⟩
theorem vA.app{n z k i:Nat}{t u:Trace}(h:vA n z t)(hz:z≤k)(hi:i < n)(hg:∀op∈u,op.g=i)(hb:∀op∈u,∀x,op.act.touch? =some x→∀b,blk x.loc=some b→b < k)(hr:∀op∈u,∀a,op.act≠.mark (.release a))
 (hk:∀j x,touchAt t j=some x→∀op∈u,∀y,op.act.touch? =some y→∀said,x.conflicts said y→Knows t i j):vA n k (t++u):=by
 refine⟨fun op hop=>?_,fun said=>noRace_append (g:=i) (h.race said) hg fun j x hx op hop y hy hc=>hk j x hx op hop y hy said hc,fun j x b hx hbl=>?_,fun op hop=>?_⟩
 ·
  rcases Array.mem_append.1 hop with hop |hop
  ·exact h.num op hop
  ·rw [hg op hop];exact hi
 ·
  obtain⟨op,hop,hxa⟩:=touch_of hx;rcases getElem?_append_cases hop with⟨_,hop'⟩ |⟨_,hu⟩
  ·exact Nat.lt_of_lt_of_le (h.inb j x b (by rw [touchAt_of hop'];exact hxa) hbl) hz
  ·exact hb op hu x hxa b hbl
 ·
  rcases Array.mem_append.1 hop with hop |hop
  ·exact h.norel op hop
  ·exact hr op hop
theorem vA.step{v:VW}{n k i z:Nat}{t:Trace}{fn:FuncId}{pos:String}{es:Array Event}(h:vA n z t)(hz:z≤k)(hi:i < n)(he:∀e∈es,lC v k e)
 (hk:∀j x,touchAt t j=some x→∀e∈es,x.loc=e.loc→x.loc.isMemory=true→(x.write=true∨e.write=true)→Knows t i j):vA n k (t++MemOp.ofEvents i fn pos es):=by
 have ho:=uq (i:=i) (fn:=fn) (pos:=pos) he
 refine h.app hz hi (fun op hop=>(ho op hop).1) (fun op hop x hx b hb=>?_) (fun op hop a e=>?_) fun j x hx op hop y hy said hc=>?_
 ·
  obtain⟨e,hem,rfl⟩:=(ho op hop).2.2 x hx;exact(ru (he e hem) hb).1
 ·
  have:=(ho op hop).2.1 _ e;cases this
 ·
  obtain⟨e,hem,rfl⟩:=(ho op hop).2.2 y hy;obtain⟨c1,c2,c3,_⟩:=hc;exact hk j x hx e hem c1 c2 (by simpa using c3)
theorem s4{v:VW}{n i g:Nat}{t:Trace}{fn:FuncId}{pos:String}{es:Array Event}(he:∀e∈es,lC v n e):Deaf (t++MemOp.ofEvents i fn pos es) g=Deaf t g:=by
 by_cases h:i=g
 ·subst h;rw [Deaf_own];unfold deafBehind;obtain⟨l⟩:=es;simp only [List.foldl_toArray'];generalize Deaf t i=d
  induction l generalizing d with
  |nil=>rfl
  |cons e l ih=>
   have h1:=uW (he e (by simp));rw [List.foldl_cons]
   have:(match e.loc with | .mark .disable=>d+1 | .mark .enable=>d - 1 |_=>d)=d:=by
    split
    ·rename_i e';exact absurd e' h1.1
    ·rename_i e';exact absurd e' h1.2
    ·rfl
   exact(congrArg (fun d=>List.foldl (fun d (e:Event)=>match e.loc with | .mark .disable=>d+1 | .mark .enable=>d - 1 |_=>d) d l) this).trans (ih (fun e he'=>he e (by simp at he'⊢;exact .inr he')) d)
 ·exact Deaf_other t h _ fun op hop=>(uq he op hop).1
theorem qw{t u:Trace}{j:Nat}(hj:j < t.size):(t++u).counts j↔t.counts j:=by
 unfold Trace.counts;rw [show(t++u).act? j=t.act? j by simp only [Trace.act?,getElem?_append_old hj],heard_old hj]
structure KA(A:Nat→Prop)(t:Trace):Prop where
 own:∀j x b,touchAt t j=some x→blk x.loc=some b→¬A b→Knows t 0 j
 cnt:∀j,t.counts j→Knows t 0 j
theorem KA.mono{A A':Nat→Prop}{t:Trace}(h:KA A t)(hA:∀b,A b→A' b):KA A' t:=⟨fun j x b hx hb ha=>h.own j x b hx hb fun x=>ha (hA b x),h.cnt⟩
theorem KA.app{A:Nat→Prop}{t u:Trace}(h:KA A t)(hu:∀op∈u,op.g=0):KA A (t++u):=by
 refine⟨fun j x b hx hb ha=>?_,fun j hj=>?_⟩
 ·obtain⟨op,hop,hxa⟩:=touch_of hx;rcases getElem?_append_cases hop with⟨_,hop'⟩ |⟨_,hm⟩
  ·exact(h.own j x b (by rw [touchAt_of hop'];exact hxa) hb ha).app _
  ·have:=knows_own hop;rwa [hu op hm] at this
 ·obtain⟨x,hx,_⟩:=id hj;obtain⟨op,hop,_⟩:=touch_of hx;rcases getElem?_append_cases hop with⟨hlt,_⟩ |⟨_,hm⟩
  ·exact(h.cnt j ((qw hlt).1 hj)).app _
  ·have:=knows_own hop;rwa [hu op hm] at this
section
variable (P:Program)(Post:Value→World→Prop)
def vV(m:Machine)(t:Trace):Prop:=∃n last o w' t',runNT P (n+1) m t=(.ended o w',t')∧runN P n m= .next last∧step P last= .ended o w'∧Conc.Good P Post last o w' t'
variable {P Post}
theorem vV.next{m m':Machine}{t:Trace}{ops:Array MemOp}(hs:stepT P m=(.next m',ops))(h:vV P Post m' (t++ops)):vV P Post m t:=by
 obtain⟨n,last,o,w',t',h1,h2,h3,h4⟩:=h;exact⟨n+1,last,o,w',t',by rw [runNT_succ_next hs];exact h1,by rw [runN_succ_next hs];exact h2,h3,h4⟩
end
def aF(k:Nat→Nat):Nat→Nat
 |0=>0
 |n+1=>aF k n+k n
def upd{α:Type}(f:Nat→α)(i:Nat)(x:α):Nat→α:=fun j=>if j=i then x else f j
theorem bi{α:Type}{f:Nat→α}{i:Nat}{x:α}:upd f i x i=x:=if_pos rfl
theorem aX{α:Type}{f:Nat→α}{i j:Nat}{x:α}(h:j≠i):upd f i x j=f j:=if_neg h
theorem nm{k k':Nat→Nat}:∀{n:Nat},(∀j,j < n→k' j=k j)→aF k' n=aF k n
 |0,_=>rfl
 |n+1,h=>by
  simp only [aF]
  rw [nm fun j hj=>h j (by omega),h n (by omega)]
theorem oC{k:Nat→Nat}{i x:Nat}:∀{n:Nat},i < n→aF (upd k i x) n+k i=aF k n+x
 |n+1,h=>by
  simp only [aF]
  by_cases e:i=n
  ·
   subst e
   rw [nm (k:=k) (n:=i) fun j hj=>aX (by omega),bi]
   omega
  ·
   have:=oC (k:=k) (x:=x) (n:=n) (i:=i) (by omega)
   rw [aX (f:=k) (fun e'=>e e'.symm)]
   omega
theorem tQ{k:Nat→Nat}{i:Nat}:∀{n:Nat},i < n→k i≤aF k n
 |n+1,h=>by
  simp only [aF]
  by_cases e:i=n
  ·
   subst e;omega
  ·
   have:=tQ (k:=k) (n:=n) (i:=i) (by omega)
   omega
theorem wM{k:Nat→Nat}:∀{n:Nat},aF k n=0→∀i,i < n→k i=0
 |n+1,h,i,hi=>by
  simp only [aF] at h
  by_cases e:i=n
  ·
   subst e;omega
  ·
   exact wM (k:=k) (n:=n) (by omega) i (by omega)
def Aq(P:Program)(gs:Array Goroutine)(t:Trace)(k:Nat→Nat):Prop:=∀i g,0 < i→gs[i]? =some g→QuitsD P (k i) (Deaf t i) g
structure yq(P:Program)(v:VW)(fr:Frame)(cs:List Frame)(gs:Array Goroutine)(t:Trace)(k:Nat→Nat):Prop where
 head:gs[0]? =some (Gr fr cs)
 quit:Aq P gs t k
 tr:vA gs.size v.heap.size t
 ka:KA v.A t
 deaf:Deaf t 0=0
def oK(P:Program)(Post:Value→World→Prop):Tq:=fun v fr cs=>
 ∀v1,bh v v1→∀(gs:Array Goroutine) (sl:Option (Nat×Nat)) (t:Trace) (k:Nat→Nat),yq P v1 fr cs gs t k→vV P Post (crowd gs v1.toWorld sl) t
section
variable {P:Program}{Post:Value→World→Prop}
theorem Bd{gs:Array Goroutine}{t:Trace}{k:Nat→Nat}{g0:Goroutine}(h0:gs[0]? =some g0)(hr:g0.status= .running)(hq:Aq P gs t k):∀g∈gs,awake g:=fun g hg=>by
 obtain⟨i,hi,rfl⟩:=Array.getElem_of_mem hg
 have e:gs[i]? =some gs[i]:=Array.getElem?_eq_getElem hi
 rcases Nat.eq_zero_or_pos i with rfl |hp
 ·
  rw [h0] at e
  cases e
  exact awake_of (.inl hr)
 ·
  have:=(hq i _ hp e).status
  exact awake_of (this.elim .inl fun h=>.inr (.inr h))
theorem kU{gs:Array Goroutine}{i j:Nat}{g g' x:Goroutine}{w':World}(hi:gs[i]? =some g)(h:((gs.map (woken P g g' w')).setIfInBounds i g')[j]? =some x):(j=i∧x=g')∨(j≠i∧∃y,gs[j]? =some y∧x=woken P g g' w' y):=by
 have hlt:=(Array.getElem?_eq_some_iff.1 hi).1;by_cases e:i=j
 ·subst e;simp [hlt] at h;exact .inl ⟨rfl,h.symm⟩
 ·rw [Array.getElem?_setIfInBounds_ne e,Array.getElem?_map] at h;obtain⟨y,hy,rfl⟩:=Option.map_eq_some_iff.1 h;exact .inr ⟨fun e'=>e e'.symm,y,hy,rfl⟩
theorem A3{gs:Array Goroutine}{i:Nat}{g g':Goroutine}{w':World}(hi:gs[i]? =some g):((gs.map (woken P g g' w')).setIfInBounds i g')[i]? =some g':=by
 have hlt:=(Array.getElem?_eq_some_iff.1 hi).1;simp [hlt]
theorem A2{gs:Array Goroutine}{i j:Nat}{g g' y:Goroutine}{w':World}(hne:j≠i)(hj:gs[j]? =some y)(hy:woken P g g' w' y=y):((gs.map (woken P g g' w')).setIfInBounds i g')[j]? =some y:=by
 rw [Array.getElem?_setIfInBounds_ne (fun e=>hne e.symm),Array.getElem?_map,hj];simp [hy]
theorem ze{i:Nat}{fn:FuncId}{pos:String}{es:Array Event}(h:∀e∈es,Event.mute e=true):∀op∈MemOp.ofEvents i fn pos es,op.g=i∧op.act.touch? =none∧(∀a,op.act≠.mark (.release a))∧(op.act= .mark .disable∨op.act= .mark .enable):=by
 intro op hop;unfold MemOp.ofEvents at hop;split at hop
 ·simp at hop
 ·obtain⟨e,he,rfl⟩:=Array.mem_map.1 hop;have h0:=h e he;obtain⟨l,wr,sy⟩:=e;unfold Event.mute at h0;cases l with
  |mark m=>cases m <;> simp at h0 <;> simp [MemAct.ofEvent,MemAct.touch?]
  |_=>simp at h0
theorem vA.words{n z i:Nat}{t u:Trace}(h:vA n z t)(hi:i < n)(hg:∀op∈u,op.g=i)(ht:∀op∈u,op.act.touch? =none)(hr:∀op∈u,∀a,op.act≠.mark (.release a)):vA n z (t++u):=
 h.app (Nat.le_refl _) hi hg (fun op ho x hx=>by rw [ht op ho] at hx;cases hx) hr fun j x hx op ho y hy=>by rw [ht op ho] at hy;cases hy
theorem cP{t u:Trace}{j:Nat}{x:Touch}(ht:∀op∈u,op.act.touch? =none)(hx:touchAt (t++u) j=some x):j < t.size∧touchAt t j=some x:=by
 obtain⟨op,hop,hxa⟩:=touch_of hx;rcases getElem?_append_cases hop with⟨hlt,hop'⟩ |⟨_,hm⟩
 ·exact⟨hlt,by rw [touchAt_of hop'];exact hxa⟩
 ·rw [ht op hm] at hxa;cases hxa
theorem KA.words{A:Nat→Prop}{t u:Trace}(h:KA A t)(ht:∀op∈u,op.act.touch? =none):KA A (t++u):=
 ⟨fun j x b hx hb ha=>(h.own j x b (cP ht hx).2 hb ha).app _,fun j hj=>by
  obtain⟨x,hx,_⟩:=id hj
  have:=(cP ht hx).1
  exact(h.cnt j ((qw this).1 hj)).app _⟩
theorem uK{v:VW}{fr:Frame}{cs:List Frame}
 (h:∀v1,bh v v1→∀(gs:Array Goroutine) (sl:Option (Nat×Nat)) (t:Trace) (k:Nat→Nat),yq P v1 fr cs gs t k→
  ∀d sl0,stepT P (crowd gs (v1.toWorld.at d) sl0)=runT P (crowd gs v1.toWorld sl) 0→vV P Post (crowd gs (v1.toWorld.at d) sl0) t):oK P Post v fr cs:=by
 have key:∀N,∀v1,bh v v1→∀(gs:Array Goroutine) (sl:Option (Nat×Nat)) (t:Trace) (k:Nat→Nat),aF k gs.size≤N→yq P v1 fr cs gs t k→vV P Post (crowd gs v1.toWorld sl) t:=by
  intro N
  induction N using Nat.strongRecOn with
  |_ N ih=>
   intro v1 hr gs sl t k hN hL;obtain⟨h0,hq,ht,hk,hd⟩:=hL;obtain⟨i,g,d,sl',hi,hg,hst⟩:=crowd_pick (P:=P) (w:=v1.toWorld) (sl:=sl) (Bd h0 rfl hq) ⟨0,_,h0,rfl⟩;have hr':bh v (v1.upd (v1.toWorld.at d)):=hr.trans (bh.drawn v1 d);rcases Nat.eq_zero_or_pos i with rfl |hp
   ·exact h _ hr' gs sl' t k ⟨h0,hq,ht,hk,hd⟩ v1.drawn sl hst
   ·have hqi:=hq i g hp hi;cases hki:k i with
    |zero=>
     rw [hki] at hqi;have hqi:g.status= .finished:=hqi.1;rw [hqi] at hg;cases hg
    |succ n=>
     rw [hki] at hqi;rcases hqi with hf |⟨_,g',es,hm,hw,hq'⟩
     ·rw [hf.1] at hg;cases hg
     ·have hi0:(i == 0)=false:=by simp;omega
      have hgo:=runT_crowd_go (sl:=sl') hi (by rw [hi0];exact hw (v1.toWorld.at d));rw [←hst] at hgo;refine vV.next hgo ?_;have hlt:=(Array.getElem?_eq_some_iff.1 hi).1;have hsz:((gs.map (woken P g g' (v1.toWorld.at d))).setIfInBounds i g').size=gs.size:=by simp
      have hmu:=ze (i:=i) (fn:=g.frame.fn) (pos:=g.frame.place) hm;have hu:=oC (k:=k) (x:=n) hlt;refine ih (aF (upd k i n) gs.size) (by omega) (v1.upd (v1.toWorld.at d)) hr' _ sl' _ (upd k i n) (by rw [hsz];exact Nat.le_refl _) ⟨?_,?_,?_,?_,?_⟩
      ·exact A2 (by omega) h0 (woken_running rfl)
      ·intro j x hj hx;rcases kU hi hx with⟨rfl,rfl⟩ |⟨hne,y,hy,rfl⟩
       ·rw [bi,Deaf_own];exact hq'
       ·rw [aX hne,woken_quitsD (hq j y hj hy),Deaf_other t (fun e=>hne e.symm) _ fun op ho=>(hmu op ho).1];exact hq j y hj hy
      ·rw [hsz];exact ht.words hlt (fun op ho=>(hmu op ho).1) (fun op ho=>(hmu op ho).2.1) fun op ho=>(hmu op ho).2.2.1
      ·exact hk.words fun op ho=>(hmu op ho).2.1
      ·rw [Deaf_other t (by omega) _ fun op ho=>(hmu op ho).1];exact hd
 intro v1 hr gs sl t k hL
 exact key _ v1 hr gs sl t k (Nat.le_refl _) hL
theorem yq.step{v1:VW}{fr fr':Frame}{cs cs':List Frame}{gs:Array Goroutine}{t:Trace}{k:Nat→Nat}{w':World}{es:Array Event}(h:yq P v1 fr cs gs t k)(hG:eF v1 w' es):
 yq P (v1.upd w') fr' cs' ((gs.map (woken P (Gr fr cs) (Gr fr' cs') w')).setIfInBounds 0 (Gr fr' cs')) (t++MemOp.ofEvents 0 fr.fn fr.place es) k:=by
 obtain⟨h0,hq,ht,hk,hd⟩:=h
 have ho:=uq (i:=0) (fn:=fr.fn) (pos:=fr.place) hG.evs
 have hsz:((gs.map (woken P (Gr fr cs) (Gr fr' cs') w')).setIfInBounds 0 (Gr fr' cs')).size=gs.size:=by simp
 refine⟨A3 h0,fun j x hj hx=>?_,?_,hk.app fun op hop=>(ho op hop).1,by rw [s4 hG.evs];exact hd⟩
 ·
  rw [s4 hG.evs];rcases kU h0 hx with⟨rfl,rfl⟩ |⟨hne,y,hy,rfl⟩
  ·exact absurd hj (Nat.lt_irrefl _)
  ·rw [woken_quitsD (hq j y hj hy)];exact hq j y hj hy
 ·
  rw [hsz];refine ht.step hG.size (by have:=(Array.getElem?_eq_some_iff.1 h0).1;omega) hG.evs fun j x hx e he hl hm _=>?_;obtain⟨b,hb⟩:=yi hm;exact hk.own j x b hx hb (ru (hG.evs e he) (hl▸hb)).2.1
theorem oK.bc:BC P (oK P Post) where
 rely v v1 fr cs hr h v2 hr':=h v2 (hr.trans hr')
 step v fr cs h:=uK fun v1 hr gs sl t k hL d sl0 hm=>by
  obtain⟨fr',cs',w',es,h1,h2,h3⟩:=h v1 hr
  have hgo:=runT_crowd_go (sl:=sl) hL.head (by exact h1 (0 == 0))
  rw [←hm] at hgo
  exact vV.next hgo (h3 (v1.upd w') (bh.refl _) _ sl _ k (hL.step h2))
theorem A7{gs:Array Goroutine}{w w':World}{sl:Option (Nat×Nat)}{i:Nat}{g:Goroutine}{o:Outcome}{es:Array Event}(hi:gs[i]? =some g)(h:stepG P (i == 0) g w= .ended o w' es):
 runT P (crowd gs w sl) i=(.ended o w',MemOp.ofEvents i g.frame.fn g.frame.place es):=by
 obtain⟨hlt,rfl⟩:=Array.getElem?_eq_some_iff.1 hi
 have hsw:=swapAt_of_lt hlt { (default:Goroutine) with status:=.finished }
 show runT P { world:=w,gs:=gs,rest:={ timers:= #[],alone:=none,slice:=sl } } i=_
 unfold runT
 simp only [hsw,h,GStep.es]
theorem Ox{fr:Frame}{w:World}{x:Value}{fn:Func}(h1:fr.mode= .returning)(h2:fr.defers=[])(hk:fr.kind= .normal)(hin:P.inits.idxOf? fr.fn=none)(h3:P.funcs[fr.fn]? =some fn)(h4:(results fn fr.tmps).run P w= .ok x w):
 stepG P true (Gr fr []) w= .ended (.done x) w (seen P fr.fn ((results fn fr.tmps).events P w #[])):=by
 simp [stepG,unwind,h1,h2,h3,h4,doReturn,hk,hin,GStep.after]
theorem EN{t:Trace}{A:Nat→Prop}(h:KA A t):t.HandedOver:=by
 intro i g hg hne hc;obtain⟨q,z,h1,h2,h3⟩:=h.cnt i hc;refine⟨q,by simp [Trace.g?,h1,h2],?_⟩;rcases h3 with rfl |h3
 ·simp only [Trace.g?,h1,Option.map_some,Option.some.injEq] at hg;exact absurd (hg.symm.trans h2) hne
 ·exact h3
theorem EC{gs:Array Goroutine}{w:World}{sl:Option (Nat×Nat)}{t:Trace}{k:Nat→Nat}(hq:Aq P gs t k):(crowd gs w sl).OnlyLeaving P:=by
 refine⟨fun g hg=>?_,rfl⟩;obtain⟨j,hj⟩:=List.mem_iff_getElem?.1 hg;rw [List.getElem?_drop] at hj
 have hj':gs[1+j]? =some g:=by
  have:(crowd gs w sl).gs.toList[1+j]? =some g:=hj;rwa [show(crowd gs w sl).gs=gs from rfl,Array.getElem?_toList] at this
 exact⟨k (1+j),(hq _ g (by omega) hj').leaves⟩
theorem ED{gs:Array Goroutine}{w:World}{sl:Option (Nat×Nat)}{k:Nat→Nat}{t:Trace}(hq:Aq P gs t k):(crowd gs w sl).EndHearing P t:=by
 intro i g hg hne;exact⟨k i,(hq i g (by omega) hg).hears _⟩
theorem oK.ret{v:VW}{fr:Frame}{x:Value}(hl:Lv P fr v (.returned x))(hk0:fr.kind= .normal)(hin:P.inits.idxOf? fr.fn=none)(hp:∀v1,bh v v1→Post x v1.toWorld):oK P Post v fr []:=by
 obtain⟨l1,l2,fn,l3,l4⟩:=hl;refine uK fun v1 hr gs sl t k hL d sl0 hst=>?_;obtain⟨h0,hq,ht,hk,hd⟩:=hL;obtain⟨r1,r2⟩:=l4 v1 hr;have hend:=A7 (sl:=sl) h0 (Ox l1 l2 hk0 hin l3 r1);rw [←hst] at hend;have r3:∀e∈seen P fr.fn ((results fn fr.tmps).events P v1.toWorld #[]),lC v1 v1.heap.size e:=fun e he=>r2.evs e (Conc.mem_seen he);have ho:=uq (i:=0) (fn:=fr.fn) (pos:=fr.place) r3
 have htr:=ht.step (Nat.le_refl _) (i:=0) (fn:=fr.fn) (pos:=fr.place) (by have:=(Array.getElem?_eq_some_iff.1 h0).1;omega) r3 fun j x hx e he hl hm _=>by
  obtain⟨b,hb⟩:=yi hm;exact hk.own j x b hx hb (ru (r3 e he) (hl▸hb)).2.1
 have hka:=hk.app fun op hop=>(ho op hop).1;have hq':Aq P gs (t++MemOp.ofEvents 0 fr.fn fr.place (seen P fr.fn ((results fn fr.tmps).events P v1.toWorld #[]))) k:=fun i g hi hg=>by rw [s4 r3];exact hq i g hi hg
 exact⟨0,crowd gs (v1.toWorld.at d) sl0,.done x,v1.toWorld,_,by simp [runNT,hend],rfl,by simp [step,hend],x,rfl,hp v1 hr,htr.race,EN hka,EC hq',ED hq'⟩
end
structure Gl(P:Program)(T:Tq)(Gd:Machine→Trace→Prop):Prop where
 next:∀m m' t ops,stepT P m=(.next m',ops)→Gd m' (t++ops)→Gd m t
 fin:∀v fr cs,T v fr cs→∀gs sl t k,yq P v fr cs gs t k→Gd (crowd gs v.toWorld sl) t
def Ep(P:Program)(T:Tq):Prop:=∀v fr cs,(∀Gd,Gl P T Gd→∀v1,bh v v1→∀gs sl t k,yq P v1 fr cs gs t k→Gd (crowd gs v1.toWorld sl) t)→T v fr cs
def dC(P:Program):Md P:=.of (fun T=>BC P T∧Ep P T) fun _ h=>h.1
theorem oK.ok{P:Program}{Post:Value→World→Prop}:(dC P).ok (oK P Post):=
 ⟨oK.bc,fun v fr cs h v1 hr gs sl t k hL=>h (vV P Post) ⟨fun _ _ _ _ hs hw=>vV.next hs hw,fun v' fr' cs' hT gs sl t k hL=>hT v' (bh.refl v') gs sl t k hL⟩ v1 hr gs sl t k hL⟩
theorem Jw{P:Program}{Post:Value→World→Prop}{f:FuncId}{args:Array Value}{W:World}(hin:P.inits.idxOf? f=none)
 (h:jA (dC P) .normal f args (vw W) fun e v'=>∃x,e= .returned x∧∀v1,bh v' v1→Post x v1.toWorld):
 ∃M last o w' t',runNT P (M+1) (solo (G (Frame.enter P f args .normal) []) W) #[]=(.ended o w',t')∧runN P M (solo (G (Frame.enter P f args .normal) []) W)= .next last∧step P last= .ended o w'∧Conc.Good P Post last o w' t':=by
 have hT:oK P Post (vw W) (Frame.enter P f args .normal) []:=h _ oK.ok [] fun e v' fr ⟨x,he,hp⟩ hf hk hl=>by
  subst he;exact oK.ret hl hk (by rw [hf];exact hin) hp
 have hno:∀i x,touchAt (#[]:Trace) i=some x→False:=fun i x hx=>by simp [touchAt,Trace.act?] at hx
 exact hT (vw W) (bh.refl _) #[G (Frame.enter P f args .normal) []] none #[] (fun _=>0) ⟨rfl,fun i g hi hg=>by
  have:i=0:=by
   rcases Nat.lt_or_ge i 1 with h |h
   ·omega
   ·rw [Array.getElem?_eq_none (by simpa using h)] at hg;cases hg
  omega,⟨fun op ho=>by simp at ho,fun said ⟨i,j,_,⟨a,b,ha,_⟩,_⟩=>(hno i a ha).elim,fun j x b hx _=>(hno j x hx).elim,fun op ho=>by simp at ho⟩,⟨fun j x b hx _ _=>(hno j x hx).elim,fun j ⟨x,hx,_⟩=>(hno j x hx).elim⟩,rfl⟩
section
variable {α:Type}(r:α→α→Prop)
def Sb(b a:α):Prop:=∀x,r x b→r x a
def Dn(n:Nat)(s' s:Nat→α):Prop:=∃i,i < n∧r (s' i) (s i)∧∀j,j < n→j≠i→Sb r (s' j) (s j)
variable {r}
theorem Sb.refl(a:α):Sb r a a:=fun _ h=>h
theorem Sb.trans{a b c:α}(h:Sb r c b)(h':Sb r b a):Sb r c a:=fun x hx=>h' x (h x hx)
theorem Iq:∀(n:Nat) (s:Nat→α),(∀i,i < n→Acc r (s i))→Acc (Dn r n) s
 |0,s,_=>Acc.intro s fun s' ⟨i,hi,_⟩=>absurd hi (Nat.not_lt_zero i)
 |n+1,s,h=>by
  have key:∀a,Acc r a→∀s0,Acc (Dn r n) s0→∀s,Sb r (s n) a→(∀j,j < n→Sb r (s j) (s0 j))→Acc (Dn r (n+1)) s:=by
   intro a ha
   induction ha with
   |intro a _ ih1=>
    intro s0 h0
    induction h0 with
    |intro s0 h0 ih2=>
     intro s hn hs;refine Acc.intro s fun s' ⟨i,hi,h1,h2⟩=>?_;by_cases e:i=n
     ·subst e;exact ih1 (s' i) (hn _ h1) s0 (Acc.intro s0 h0) s' (Sb.refl _) fun j hj=>(h2 j (by omega) (by omega)).trans (hs j hj)
     ·have hin:i < n:=by omega
      refine ih2 s' ⟨i,hin,hs i hin _ h1,fun j hj hne=>(h2 j (by omega) hne).trans (hs j hj)⟩ s' ((h2 n (by omega) (fun e'=>e e'.symm)).trans hn) fun j _=>Sb.refl _
  exact key (s n) (h n (Nat.lt_succ_self n)) s (Iq n s fun i hi=>h i (by omega)) s (Sb.refl _) fun j _=>Sb.refl _
end
structure c9 where
 c:Nat:=0
 wt:Nat:=0
 sm:Nat:=0
 L:Nat:=0
 W:Nat:=0
 S:Nat:=0
 N:Nat:=0
 T:Nat:=0
 f:Nat:=0
 h:Nat:=0
 cs:Nat:=0
 cl:Bool:=false
@[reducible] def c9.word(q:c9):Nat:=q.L+2 * q.W+4 * q.S+8 * q.N
structure Ph where
 q:Bool:=false
 nr:Bool:=true
 df:Nat:=0
 lv:Nat:=1
 ac:Nat:=0
 w1:Nat:=0
 w2:Nat:=0
 nw:Nat:=0
 hd:Nat:=0
 dt:Nat:=0
 aw:Nat:=0
 rn:Nat:=0
 qu:Nat:=0
 tk:Nat:=0
 rh:Nat:=0
 ty:Nat:=0
 phi:Nat:=0
 se:Option (Nat×Nat):=none
 nb:Nat:=0
 rg:Bool:=false
 pd:Nat:=0
 cb:Option Nat:=none
 al:Bool:=false
 jn:Bool:=false
 sp:Nat:=0
 op:Bool:=false
 cd:Bool:=false
@[reducible] def Ph.quit:Ph:={ q:=true,nr:=false,lv:=0 }
@[reducible] def Ph.wk0:Ph:={ ac:=1,nw:=1 }
structure Gp where
 cr:Bool
 bw:Nat
 tW:TypeId
 bc:Nat
 bm:Nat
 tM:TypeId
 m0:Array Value
 bk:Nat
 R:Obj→Prop
 vok:Value→Prop
 lp:Nat→Value→VW→Frame→List Frame→Prop
def Gp.sh(p:Gp)(b:Nat):Prop:=b=p.bm∨(p.cr=true∧(b=p.bw∨b=p.bc))
@[reducible] def Gp.stA(p:Gp):Addr:=⟨p.bw,0,none⟩
@[reducible] def Gp.smA(p:Gp):Addr:=⟨p.bw,1,none⟩
@[reducible] def Gp.muA(p:Gp):Addr:=⟨p.bm,p.m0.size,none⟩
@[reducible] def Gp.msA(p:Gp):Addr:=⟨p.bm,p.m0.size+1,none⟩
def Gp.wc(p:Gp)(l:Loc):Prop:=l= .cell p.muA∨l= .cell p.msA∨(p.cr=true∧(l= .cell p.stA∨l= .cell p.smA∨l= .obj p.bc))
structure Gp.Ok(p:Gp):Prop where
 mb:p.bm≠p.bk
 wm:p.cr=true→p.bw≠p.bm∧p.bw≠p.bk∧p.bw≠p.bc
 cm:p.cr=true→p.bc≠p.bm∧p.bc≠p.bk
structure Gp.At(p:Gp)(w:World)(q:c9):Prop where
 wg:p.cr=true→w.heap[p.bw]? =some (.cells #[.int .u64 ((q.c * 4294967296+q.wt:Nat):Int),.int .u32 (q.sm:Int)] p.tW)
 ch:p.cr=true→w.heap[p.bc]? =some (.chan 0 #[] q.cl q.cs q.cs false)
 mu:w.heap[p.bm]? =some (.cells (p.m0++ #[.int .i32 (q.word:Int),.int .u32 (q.T:Int),.map (some p.bk)]) p.tM)
 mp:q.h=0→∃o,w.heap[p.bk]? =some o∧p.R o
structure Gp.Kf(p:Gp)(w:World):Prop where
 mu:∃x y,w.heap[p.bm]? =some (.cells (p.m0++ #[x,y,.map (some p.bk)]) p.tM)
 wg:p.cr=true→∃x y,w.heap[p.bw]? =some (.cells #[x,y] p.tW)
theorem Gp.At.kf{p:Gp}{w:World}{q:c9}(h:p.At w q):p.Kf w:=⟨⟨_,_,h.mu⟩,fun hc=>⟨_,_,h.wg hc⟩⟩
def Gp.pk(p:Gp)(e:Event):Prop:=∃o,e=⟨.cell ⟨p.bm,o,none⟩,false,false⟩∧o≠p.m0.size∧o≠p.m0.size+1
def BV(a:Addr):Event:=⟨.cell a,false,true⟩
def La(a:Addr):Event:=⟨.cell a,true,true⟩
def iL(m:Mark):Event:=⟨.mark m,false,true⟩
structure Gp.Eff(p:Gp)(w w':World)(q':c9):Prop where
 at_:p.At w' q'
 keep:∀b,¬p.sh b→w'.heap[b]? =w.heap[b]?
 size:w'.heap.size=w.heap.size
 os:w'.os=w.os
 tape:w'.tape=w.tape
 output:w'.output=w.output
theorem Gp.Eff.refl{p:Gp}{w:World}{q:c9}(h:p.At w q):p.Eff w w q:=⟨h,fun _ _=>rfl,rfl,rfl,rfl,rfl⟩
def al(n:Nat)(sg:Nat→Ph)(f:Ph→Nat):Nat:=aF (fun i=>f (sg i)) n
theorem eI{n i:Nat}{sg:Nat→Ph}{f:Ph→Nat}{s:Ph}(h:i < n):al n (upd sg i s) f+f (sg i)=al n sg f+f s:=by
 have e:(fun j=>f (upd sg i s j))=upd (fun j=>f (sg j)) i (f s):=by
  funext j;by_cases hj:j=i
  ·subst hj;rw [bi,bi]
  ·rw [aX hj,aX hj]
 unfold al;rw [e];exact oC h
theorem jY{n i:Nat}{sg:Nat→Ph}{f:Ph→Nat}(h:i < n):f (sg i)≤al n sg f:=tQ (k:=fun i=>f (sg i)) h
theorem yl{n i:Nat}{sg:Nat→Ph}{f:Ph→Nat}(h:al n sg f=0)(hi:i < n):f (sg i)=0:=wM (k:=fun i=>f (sg i)) h i hi
theorem ju{k k':Nat→Nat}:∀{n:Nat},(∀j,j < n→k j≤k' j)→aF k n≤aF k' n
 |0,_=>Nat.le_refl _
 |n+1,h=>by
  simp only [aF]
  have:=ju (k:=k) (k':=k') (n:=n) fun j hj=>h j (by omega)
  have:=h n (by omega)
  omega
theorem zK{k k':Nat→Nat}:∀{n:Nat},aF (fun j=>k j+k' j) n=aF k n+aF k' n
 |0=>rfl
 |n+1=>by
  simp only [aF]
  rw [zK]
  omega
theorem sG{k:Nat→Nat}:∀{n:Nat},(∀i,i < n→k i=0)→aF k n=0
 |0,_=>rfl
 |n+1,h=>by simp only [aF];rw [sG fun i hi=>h i (by omega),h n (by omega)]
@[reducible] def Ph.mx(s:Ph):Nat:=s.hd+s.aw+s.rn+s.qu+s.tk+s.rh+s.ty
structure Ph.Ok(s:Ph)(i:Nat):Prop where
 one:s.mx≤s.lv
 rg:s.rg=true→s.mx=0∧i=0
 lv:s.q=false→s.lv=1
 quit:s.q=true→s=Ph.quit
 dt:s.dt≤s.hd
 main:i=0→s.ac=0∧s.w1=0∧s.w2=0∧s.nw=0∧s.q=false∧s.nr=true
 work:0 < i→s.q=false→s.ac+s.w1+s.w2=1∧(s.nr=true→s.ac=1)
structure Bk(p:Gp)(n:Nat)(sg:Nat→Ph)(q:c9):Prop where
 c:q.c=al n sg Ph.ac+(sg 0).pd
 un:(sg 0).rg=false→q.wt=0∧q.sm=0∧al n sg Ph.w1=0∧al n sg Ph.w2=0
 re:(sg 0).rg=true→(sg 0).pd=0∧(0 < q.c→q.wt=1∧q.sm=0∧al n sg Ph.w1=0∧al n sg Ph.w2=0)∧(q.c=0→q.wt=al n sg Ph.w1∧al n sg Ph.w1+al n sg Ph.w2+q.sm=1)
 pd:(sg 0).pd≤1
 rgc:(sg 0).rg=true∨(sg 0).cd=true→q.cl=true
 op:(sg 0).op=true→q.cl=false
 nw:q.cl=false→al n sg Ph.nw=(sg 0).sp
 le:q.L≤1∧q.W≤1∧q.S≤1
 hd:q.L=al n sg Ph.hd
 s0:q.S=0→q.W=al n sg Ph.aw+al n sg Ph.rn+q.T+al n sg Ph.tk∧al n sg Ph.qu=q.N+q.T+al n sg Ph.rn∧al n sg Ph.rh=0∧(q.L=0→0 < q.N→q.W=0→0 < al n sg Ph.ty)
 s1:q.S=1→q.W=0∧al n sg Ph.aw=0∧al n sg Ph.rn=0∧q.L+al n sg Ph.rh+q.T+al n sg Ph.tk=1∧al n sg Ph.qu+al n sg Ph.tk=q.N∧1≤q.N
 h:q.h=al n sg Ph.dt
 f:al n sg Ph.phi+2 * q.T≤q.f
 se:∀i ow φ,i < n→(sg i).se=some (ow,φ)→q.f≤φ∧(q.f=φ→q.word=ow)
 nb:∀i,i < n→(sg i).nb≤q.N∧((sg i).nb=0∨(q.S=1∧(sg i).tk=1))
 lv:al n sg Ph.lv≤(sg 0).sp+1∧(sg 0).sp≤100
 ok:∀i,i < n→(sg i).Ok i
 n0:0 < n
 cb:∀B,(sg 0).cb=some B→q.c≤B
 gone:(sg 0).al=true→∀i,0 < i→i < n→(sg i).q=true
theorem Bk.qk{p:Gp}{n:Nat}{sg:Nat→Ph}{q:c9}(h:Bk p n sg q):al n sg Ph.qu+al n sg Ph.tk≤101:=by
 have h1:al n sg Ph.qu+al n sg Ph.tk≤al n sg Ph.lv:=by
  unfold K.al;rw [←zK];exact ju fun j hj=>(by have:=(h.ok j hj).one;simp only [Ph.mx] at this;omega)
 have:=h.lv;omega
theorem Bk.small{p:Gp}{n:Nat}{sg:Nat→Ph}{q:c9}(h:Bk p n sg q):q.N≤101∧q.T≤1:=by
 have h1:=h.qk;have h2:=h.le;rcases(show q.S=0∨q.S=1 by omega) with e |e
 ·have:=h.s0 e;omega
 ·have:=h.s1 e;omega
theorem Bk.cs{p:Gp}{n:Nat}{sg:Nat→Ph}{q:c9}(h:Bk p n sg q):q.c≤102∧q.wt≤1∧q.sm≤1:=by
 have h1:al n sg Ph.ac≤al n sg Ph.lv:=ju fun j hj=>by
  have h2:=h.ok j hj;cases hq:(sg j).q with
  |true=>rw [h2.quit hq];exact Nat.le_refl _
  |false=>
   have:=h2.lv hq;rcases Nat.eq_zero_or_pos j with e |e
   ·have:=(h2.main e).1;omega
   ·have:=(h2.work e hq).1;omega
 have h2:=h.lv;have h3:=h.c;have h4:=h.pd;refine⟨by omega,?_⟩;cases hr:(sg 0).rg with
 |false=>have:=h.un hr;omega
 |true=>
  have h5:=h.re hr;rcases Nat.eq_zero_or_pos q.c with e |e
  ·have:=h5.2.2 e;omega
  ·have:=h5.2.1 e;omega
def lZ(p:Gp)(mn:Bool)(s:Ph)(q:c9):Prop:=∃n sg i,i < n∧(mn=true↔i=0)∧sg i=s∧Bk p n sg q
def Sv(p:Gp)(mn:Bool)(s:Ph)(q:c9)(s':Ph)(q':c9):Prop:=∀n sg i,i < n→(mn=true↔i=0)→sg i=s→Bk p n sg q→Bk p n (upd sg i s') q'
theorem Sv.refl{p:Gp}{mn:Bool}{s:Ph}{q:c9}:Sv p mn s q s q:=fun n sg i _ _ e h=>by
 have:upd sg i s=sg:=by
  funext j;by_cases e':j=i
  ·subst e';rw [bi,e]
  ·rw [aX e']
 rw [this];exact h
structure mh(p:Gp)(mn:Bool)(s s':Ph)(es:Array Event):Prop where
 sh:∀e∈es,(∃l wr,e=⟨l,wr,true⟩∧p.wc l)∨e=iL .disable∨e=iL .enable∨(∃a,e=iL (.acquire a))∨(∃a,e=iL (.releaseMerge a))∨(mn=true∧∃a,(e=iL (.read a)∨e=iL (.write a))∧p.wc (.cell a))
 df:deafBehind s.df es=(if s'.q=true then 1 else s'.df)
 deaf:mn=false→∀j,j < es.size→∀e,es[j]? =some e→(MemAct.ofEvent e).touch? ≠none→0 < deafBehind s.df (es.extract 0 j)
 acq:s'.dt≠s.dt→s'.dt=1→es= #[iL (.acquire p.muA)]∧s.df=0
 rel:s'.dt≠s.dt→s'.dt=0→es= #[iL (.releaseMerge p.muA)]∧s.df=0
 dt:s'.dt≤1
 nr:s.nr=true→s'.nr=false→es= #[iL (.releaseMerge p.stA)]∧s.df=0
 nr':s'.nr=true→s.nr=true
 jn:s'.jn=true→s'.al=true∧(s.jn=true∨(es= #[iL (.acquire p.stA)]∧s.df=0∧s.al=true))
 bw:mn=false→s.nr=false→p.cr=true∧∀e∈es,∀b,blk e.loc=some b→b=p.bw
inductive Rk where
 |leaf
 |mk (g:VW→c9→Value→Bool→Rk)
def Rk.lt(y:Rk):Rk→Prop
 | .leaf=>False
 | .mk g=>∃v q x b,y=g v q x b
theorem CB:∀r:Rk,Acc Rk.lt r
 | .leaf=>Acc.intro _ fun y h=>h.elim
 | .mk g=>Acc.intro _ fun y ⟨v,q,x,b,e⟩=>e▸CB (g v q x b)
@[reducible] def Gp.sA(p:Gp)(dt:Nat)(A:Nat→Prop):Nat→Prop:=fun b=>if b=p.bk then dt=0 else A b
@[reducible] def VW.put(v:VW)(p:Gp)(dt:Nat)(w:World):VW:=⟨w,p.sA dt v.A,v.Z⟩
def Jf(s:Ph)(q:c9):Prop:=(s.qu=1∧q.T=0)∨(s.rg=true∧q.sm=0)
abbrev Ro:=VW→c9→Value→Bool→Bool→Ph→VW→Frame→List Frame→Prop
section
variable (P:Program)(p:Gp)(T:Tq)(R:Ro)(mn:Bool)(s:Ph)(v:VW)(fr:Frame)(cs:List Frame)
def Us:Prop:=∀v1,bh v v1→p.Kf v1.toWorld→∃fr' cs' w' es,stepG P mn (Gr fr cs) v1.toWorld= .go (Gr fr' cs') w' es∧lB p.pk v1 w' es∧(s.nr=false→es= #[])∧∃q x b,R v1 q x b mn s (v1.upd w') fr' cs'
def FM(v1:VW)(q:c9):Prop:=∃s' q' fr' cs' w' es,stepG P mn (Gr fr cs) v1.toWorld= .go (Gr fr' cs') w' es∧p.Eff v1 w' q'∧Sv p mn s q s' q'∧mh p mn s s' es∧((q.T < q'.T∨q.sm < q'.sm∨q.cl≠q'.cl)→mayWake P (Gr fr cs)=true)∧(q.cl=true→q'.cl=true)∧
 (s'.q=false→∃q x b,R v1 q x b mn s' (v1.put p s'.dt w') fr' cs')∧(s'.q=true→mn=false∧∃m,QuitsD P m 1 (Gr fr' cs'))
def Ut:Prop:=∀v1 q,bh v v1→p.At v1 q→lZ p mn s q→FM P p R mn s fr cs v1 q
def Uo:Prop:=(s.qu=1∨s.rg=true)∧∀v1 q,bh v v1→p.At v1 q→lZ p mn s q→(Jf s q→stepG P mn (Gr fr cs) v1.toWorld= .go { Gr fr cs with status:=.blocked } v1.toWorld #[])∧(¬Jf s q→FM P p R mn s fr cs v1 q)
def Fh(z:Value):Prop:=p.cr=true∧mn=false∧s.nw=1∧s.q=false∧s.mx=0∧s.rg=false∧(∀w:World,stepG P mn (Gr fr cs) w= .comm (Gr fr cs) #[rcase p.bc z] true (.recv true) w #[])∧
 (∀v1 x,bh v v1→p.vok x→s={ ac:=1,nw:=1,phi:=s.phi }∧p.lp (s.phi+12) x v1 (fr.finish (.tuple #[x,.bool true])) cs)∧
 ∀v1,bh v v1→∃q y b,R v1 q y b mn { s with nw:=0 } v1 (fr.finish (.tuple #[z,.bool false])) cs
def Ur:Prop:=∃z,Fh P p R mn s v fr cs z
def Jk(x z:Value):Prop:=p.cr=true∧mn=true∧s.op=true∧0 < s.sp∧12≤s.phi∧s.q=false∧s.mx=0∧s.rg=false∧p.vok x∧(∀w:World,stepG P mn (Gr fr cs) w= .comm (Gr fr cs) #[scase p.bc x z] true .send w #[])∧
 ∀v1,bh v v1→∃q y b,R v1 q y b mn { s with phi:=s.phi - 12 } v1 (fr.finish undef) cs
def Up:Prop:=∃x z,Jk P p R mn s v fr cs x z
def Uc:Prop:=p.cr=true∧mn=true∧s.pd=1∧s.df=0∧s.rg=false∧s.op=true∧s.sp < 100∧∃fr' fc Sh,(∀w:World,stepG P mn (Gr fr cs) w= .spawn (Gr fr' cs) (Gr fc []) w #[])∧(∀b,Sh b→b < v.heap.size∧¬v.A b∧b≠p.bk)∧
 (∀v1,bh v v1→∃q x b,R v1 q x b false .wk0 ⟨v1.toWorld,fun b=>b < v1.heap.size∧¬Sh b,Sh⟩ fc [])∧
 ∀v1,bh v v1→∃q x b,R v1 q x b mn { s with pd:=0,sp:=s.sp+1,al:=false,jn:=false } ⟨v1.toWorld,v1.A,fun b=>v1.Z b∨Sh b⟩ fr' cs
def Ud:Prop:=mn=true∧s.jn=true∧s.al=true∧s.df=0∧s.dt=0∧∃Z0:Nat→Prop,∀v1 q,bh v v1→p.At v1 q→lZ p mn s q→T ⟨v1.toWorld,fun b=>v1.A b∧b≠p.bm∧b≠p.bk,Z0⟩ fr cs
def LM:Prop:=s.q=false∧(Us P p R mn s v fr cs∨Ut P p R mn s v fr cs∨Uo P p R mn s v fr cs∨Ur P p R mn s v fr cs∨Up P p R mn s v fr cs∨Uc P p R mn s v fr cs∨Ud p T mn s v fr cs)
end
def vz(P:Program)(p:Gp)(T:Tq):Rk→Bool→Ph→VW→Frame→List Frame→Prop
 | .leaf=>fun mn s v fr cs=>LM P p T (fun _ _ _ _ _ _ _ _ _=>False) mn s v fr cs
 | .mk g=>fun mn s v fr cs=>LM P p T (fun v q x b=>vz P p T (g v q x b)) mn s v fr cs
@[reducible] def yc(P:Program)(p:Gp)(T:Tq):Rk→Ro
 | .leaf=>fun _ _ _ _ _ _ _ _ _=>False
 | .mk g=>fun v q x b=>vz P p T (g v q x b)
theorem Nj{P:Program}{p:Gp}{T:Tq}{r:Rk}{mn:Bool}{s:Ph}{v:VW}{fr:Frame}{cs:List Frame}:vz P p T r mn s v fr cs↔LM P p T (yc P p T r) mn s v fr cs:=by cases r <;> exact Iff.rfl
theorem sM{P:Program}{p:Gp}{T:Tq}{r:Rk}{v1:VW}{q:c9}{x:Value}{b mn:Bool}{s:Ph}{v:VW}{fr:Frame}{cs:List Frame}(h:yc P p T r v1 q x b mn s v fr cs):∃r',Rk.lt r' r∧vz P p T r' mn s v fr cs:=by
 cases r with
 |leaf=>exact h.elim
 |mk g=>exact⟨g v1 q x b,⟨v1,q,x,b,rfl⟩,h⟩
def Ww(P:Program)(p:Gp)(T:Tq)(mn:Bool)(s:Ph):Tq:=fun v fr cs=>∃r,vz P p T r mn s v fr cs
def Fj(P:Program)(p:Gp)(T:Tq):Prop:=∀c x v fr cs,p.lp c x v fr cs→p.vok x→Ww P p T false { ac:=1,nw:=1,phi:=c } v fr cs
section
variable {P:Program}{p:Gp}{T:Tq}{R:Ro}{mn:Bool}{s:Ph}{v v':VW}{fr:Frame}{cs:List Frame}
theorem LM.rely(hr:bh v v')(h:LM P p T R mn s v fr cs):LM P p T R mn s v' fr cs:=by
 refine⟨h.1,?_⟩;rcases h.2 with h |h |⟨h0,h⟩ |⟨z,h1,h2,h3,h4,h5,h6,h7,h8,h9⟩ |⟨x,z,h1,h2,h3,h4,h5,h6,h6',h6'',h7,h8,h9⟩ |⟨h1,h2,h3,h4,h5,h6,h7,fr',fc,Sh,g1,g2,g3,g4⟩ |⟨h1,h2,h3,h4,h5,Z0,h6⟩
 ·exact .inl fun v1 h1=>h v1 (hr.trans h1)
 ·exact .inr (.inl fun v1 q h1=>h v1 q (hr.trans h1))
 ·exact .inr (.inr (.inl ⟨h0,fun v1 q h1=>h v1 q (hr.trans h1)⟩))
 ·exact .inr (.inr (.inr (.inl ⟨z,h1,h2,h3,h4,h5,h6,h7,fun v1 x g=>h8 v1 x (hr.trans g),fun v1 g=>h9 v1 (hr.trans g)⟩)))
 ·exact .inr (.inr (.inr (.inr (.inl ⟨x,z,h1,h2,h3,h4,h5,h6,h6',h6'',h7,h8,fun v1 g=>h9 v1 (hr.trans g)⟩))))
 ·refine .inr (.inr (.inr (.inr (.inr (.inl ⟨h1,h2,h3,h4,h5,h6,h7,fr',fc,Sh,g1,fun b hb=>?_,fun v1 g=>g3 v1 (hr.trans g),fun v1 g=>g4 v1 (hr.trans g)⟩)))));obtain⟨k1,k2,k3⟩:=g2 b hb;exact⟨Nat.lt_of_lt_of_le k1 hr.size,fun ha=>(hr.old b ha).elim k2 fun x=>by omega,k3⟩
 ·exact .inr (.inr (.inr (.inr (.inr (.inr ⟨h1,h2,h3,h4,h5,Z0,fun v1 q g=>h6 v1 q (hr.trans g)⟩)))))
theorem vz.rely{r:Rk}(hr:bh v v')(h:vz P p T r mn s v fr cs):vz P p T r mn s v' fr cs:=by
 cases r with
 |leaf=>exact LM.rely hr h
 |mk g=>exact LM.rely hr h
theorem Ww.rely(hr:bh v v')(h:Ww P p T mn s v fr cs):Ww P p T mn s v' fr cs:=let ⟨r,h⟩:=h;⟨r,h.rely hr⟩
theorem pick{α:Type}{c:α→Prop}{d:α→Rk→Prop}(h:∀a,c a→∃r,d a r):∃f:α→Rk,∀a,c a→d a (f a):=by
 haveI hd:∀a,Decidable (c a):=fun a=>Classical.propDecidable _;exact⟨fun a=>if hc:c a then Classical.choose (h a hc) else .leaf,fun a hc=>by simp only [dif_pos hc];exact Classical.choose_spec (h a hc)⟩
theorem FM.pick{v1:VW}{q:c9}(h:FM P p (fun _ _ _ _=>Ww P p T) mn s fr cs v1 q):∃r,FM P p (fun _ _ _ _=>vz P p T r) mn s fr cs v1 q:=by
 obtain⟨s',q',fr',cs',w',es,h1,h2,h3,h4,h5,h5',h6,h7⟩:=h;cases hq:s'.q with
 |true=>exact⟨.leaf,s',q',fr',cs',w',es,h1,h2,h3,h4,h5,h5',fun e=>(by rw [hq] at e;cases e),h7⟩
 |false=>
  obtain⟨_,_,_,r,h6⟩:=h6 hq;exact⟨r,s',q',fr',cs',w',es,h1,h2,h3,h4,h5,h5',fun _=>⟨q,undef,true,h6⟩,h7⟩
theorem FM.mono{R R':Ro}{v1:VW}{q:c9}(hR:∀mn s v fr cs,(∃q x b,R v1 q x b mn s v fr cs)→∃q x b,R' v1 q x b mn s v fr cs)(h:FM P p R mn s fr cs v1 q):FM P p R' mn s fr cs v1 q:=by
 obtain⟨s',q',fr',cs',w',es,h1,h2,h3,h4,h5,h5',h6,h7⟩:=h;exact⟨s',q',fr',cs',w',es,h1,h2,h3,h4,h5,h5',fun e=>hR _ _ _ _ _ (h6 e),h7⟩
theorem Ww.of(h:LM P p T (fun _ _ _ _=>Ww P p T) mn s v fr cs):Ww P p T mn s v fr cs:=by
 obtain⟨hq,h⟩:=h;rcases h with h |h |⟨h0,h⟩ |⟨z,h1,h2,h3,h4,h5,h6,h7,h8,h9⟩ |⟨x,z,h1,h2,h3,h4,h5,h6,h6',h6'',h7,h8,h9⟩ |⟨h1,h2,h3,h4,h5,h6,h7,fr',fc,Sh,g1,g2,g3,g4⟩ |h
 ·obtain⟨f,hf⟩:=pick (α:=VW) (c:=fun v1=>bh v v1∧p.Kf v1.toWorld) (d:=fun v1 r=>∃fr' cs' w' es,stepG P mn (Gr fr cs) v1.toWorld= .go (Gr fr' cs') w' es∧lB p.pk v1 w' es∧(s.nr=false→es= #[])∧vz P p T r mn s (v1.upd w') fr' cs') fun v1 hv=>by
   obtain⟨fr',cs',w',es,k1,k2,k3,_,_,_,r,k4⟩:=h v1 hv.1 hv.2;exact⟨r,fr',cs',w',es,k1,k2,k3,k4⟩
  refine⟨.mk fun v1 _ _ _=>f v1,hq,.inl fun v1 hr hk=>?_⟩;obtain⟨fr',cs',w',es,k1,k2,k3,k4⟩:=hf v1 ⟨hr,hk⟩;exact⟨fr',cs',w',es,k1,k2,k3,{},undef,true,k4⟩
 ·obtain⟨f,hf⟩:=pick (α:=VW×c9) (c:=fun x=>bh v x.1∧p.At x.1 x.2∧lZ p mn s x.2) (d:=fun x r=>FM P p (fun _ _ _ _=>vz P p T r) mn s fr cs x.1 x.2) fun x hx=>(h x.1 x.2 hx.1 hx.2.1 hx.2.2).pick;refine⟨.mk fun v1 q _ _=>f (v1,q),hq,.inr (.inl fun v1 q hr ha hp=>?_)⟩;exact(hf (v1,q) ⟨hr,ha,hp⟩).mono fun _ _ _ _ _ ⟨_,_,_,k⟩=>⟨q,undef,true,k⟩
 ·obtain⟨f,hf⟩:=pick (α:=VW×c9) (c:=fun x=>bh v x.1∧p.At x.1 x.2∧lZ p mn s x.2) (d:=fun x r=>(Jf s x.2→stepG P mn (Gr fr cs) x.1.toWorld= .go { Gr fr cs with status:=.blocked } x.1.toWorld #[])∧(¬Jf s x.2→FM P p (fun _ _ _ _=>vz P p T r) mn s fr cs x.1 x.2)) fun x hx=>by
   obtain⟨k1,k2⟩:=h x.1 x.2 hx.1 hx.2.1 hx.2.2;by_cases hb:Jf s x.2
   ·exact⟨.leaf,k1,fun e=>absurd hb e⟩
   ·obtain⟨r,hr⟩:=(k2 hb).pick;exact⟨r,k1,fun _=>hr⟩
  refine⟨.mk fun v1 q _ _=>f (v1,q),hq,.inr (.inr (.inl ⟨h0,fun v1 q hr ha hp=>?_⟩))⟩;obtain⟨k1,k2⟩:=hf (v1,q) ⟨hr,ha,hp⟩;exact⟨k1,fun e=>(k2 e).mono fun _ _ _ _ _ ⟨_,_,_,k⟩=>⟨q,undef,true,k⟩⟩
 ·obtain⟨g,hg⟩:=pick (α:=VW) (c:=fun x=>bh v x) (d:=fun x r=>vz P p T r mn { s with nw:=0 } x (fr.finish (.tuple #[z,.bool false])) cs) fun x hx=>by
   obtain⟨_,_,_,r,k⟩:=h9 x hx;exact⟨r,k⟩
  exact⟨.mk fun v1 _ _ _=>g v1,hq,.inr (.inr (.inr (.inl ⟨z,h1,h2,h3,h4,h5,h6,h7,h8,fun v1 hr=>⟨{},undef,false,hg v1 hr⟩⟩)))⟩
 ·obtain⟨f,hf⟩:=pick (α:=VW) (c:=fun x=>bh v x) (d:=fun x r=>vz P p T r mn { s with phi:=s.phi - 12 } x (fr.finish undef) cs) fun x hx=>by
   obtain⟨_,_,_,r,k⟩:=h9 x hx;exact⟨r,k⟩
  exact⟨.mk fun v1 _ _ _=>f v1,hq,.inr (.inr (.inr (.inr (.inl ⟨x,z,h1,h2,h3,h4,h5,h6,h6',h6'',h7,h8,fun v1 hr=>⟨{},undef,true,hf v1 hr⟩⟩))))⟩
 ·obtain⟨f,hf⟩:=pick (α:=VW) (c:=fun x=>bh v x) (d:=fun x r=>vz P p T r false .wk0 ⟨x.toWorld,fun b=>b < x.heap.size∧¬Sh b,Sh⟩ fc []) fun x hx=>by
   obtain⟨_,_,_,r,k⟩:=g3 x hx;exact⟨r,k⟩
  obtain⟨g,hg⟩:=pick (α:=VW) (c:=fun x=>bh v x) (d:=fun x r=>vz P p T r mn { s with pd:=0,sp:=s.sp+1,al:=false,jn:=false } ⟨x.toWorld,x.A,fun b=>x.Z b∨Sh b⟩ fr' cs) fun x hx=>by
   obtain⟨_,_,_,r,k⟩:=g4 x hx;exact⟨r,k⟩
  exact⟨.mk fun v1 _ _ b=>if b then f v1 else g v1,hq,.inr (.inr (.inr (.inr (.inr (.inl ⟨h1,h2,h3,h4,h5,h6,h7,fr',fc,Sh,g1,g2,fun v1 hr=>⟨{},undef,true,hf v1 hr⟩,fun v1 hr=>⟨{},undef,false,hg v1 hr⟩⟩)))))⟩
 ·exact⟨.leaf,hq,.inr (.inr (.inr (.inr (.inr (.inr h)))))⟩
theorem Ww.own(hq:s.q=false)(h:∀v1,bh v v1→p.Kf v1.toWorld→∃fr' cs' w' es,stepG P mn (Gr fr cs) v1.toWorld= .go (Gr fr' cs') w' es∧lB p.pk v1 w' es∧(s.nr=false→es= #[])∧Ww P p T mn s (v1.upd w') fr' cs'):Ww P p T mn s v fr cs:=
 .of ⟨hq,.inl fun v1 hr hk=>let ⟨fr',cs',w',es,k1,k2,k3,k4⟩:=h v1 hr hk;⟨fr',cs',w',es,k1,k2,k3,{},undef,true,k4⟩⟩
theorem Ww.move{fr':Frame}{cs':List Frame}(hq:s.q=false)(h1:∀w:World,p.Kf w→stepG P mn (Gr fr cs) w= .go (Gr fr' cs') w #[])(h:Ww P p T mn s v fr' cs'):Ww P p T mn s v fr cs:=
 Ww.own hq fun v1 hr hk=>⟨fr',cs',v1.toWorld, #[],h1 _ hk,(eF.refl v1).k,fun _=>rfl,h.rely hr⟩
theorem Ww.bc(hq:s.q=false)(hn:s.nr=true):BC P (Ww P p T mn s) where
 rely _ _ _ _ hr h:=h.rely hr
 step v fr cs h:=Ww.own hq fun v1 hr _=>by
  obtain⟨fr',cs',w',es,k1,k2,k3⟩:=h v1 hr
  exact⟨fr',cs',w',es,k1 mn,k2.k,fun e=>(by rw [hn] at e;cases e),k3⟩
theorem OR(hq:s.q=false)(hn:s.nr=true):TS P p.Kf p.pk (Ww P p T mn s):=fun v fr cs h=>Ww.own hq fun v1 hr hk=>by
 obtain⟨fr',cs',w',es,k1,k2,k3⟩:=h v1 hr hk
 exact⟨fr',cs',w',es,k1 mn,k2,fun e=>(by rw [hn] at e;cases e),k3⟩
def MW(P:Program)(p:Gp)(T:Tq):Md P:=⟨fun T'=>∃mn s,s.q=false∧s.nr=true∧T'=Ww P p T mn s,p.Kf,p.pk,fun T' ⟨_,_,h1,h2,e⟩=>e▸Ww.bc h1 h2,fun T' ⟨_,_,h1,h2,e⟩=>e▸OR h1 h2⟩
end
def K2(A:Nat→Nat→Prop)(i n n':Nat):Nat→Nat→Prop:=fun j b=>A j b∨(j≠i∧n≤b∧b < n')
theorem H7{A:Nat→Nat→Prop}{i n n':Nat}:K2 A i n n' i=A i:=by
 funext b;simp [K2]
inductive IN(P:Program)(p:Gp)(T:Tq)(mn:Bool)(V:VW)(r:Rk)(s:Ph)(q:c9):Goroutine→Prop
 |run {fr:Frame} {cs:List Frame} (h:vz P p T r mn s V fr cs):IN P p T mn V r s q (Gr fr cs)
 |blk {fr:Frame} {cs:List Frame} (hb:Jf s q) (h:vz P p T r mn s V fr cs):IN P p T mn V r s q { Gr fr cs with status:=.blocked }
 |rcv {fr:Frame} {cs:List Frame} {z:Value} (hc:q.cl=false) (h:Fh P p (yc P p T r) mn s V fr cs z):IN P p T mn V r s q (parked (Gr fr cs) #[rcase p.bc z] (.recv true))
 |rcd {fr:Frame} {cs:List Frame} {z:Value} (hc:q.cl=true) (h:Fh P p (yc P p T r) mn s V fr cs z):IN P p T mn V r s q { parked (Gr fr cs) #[rcase p.bc z] (.recv true) with status:=.running }
 |snd {fr:Frame} {cs:List Frame} {x z:Value} (h:Jk P p (yc P p T r) mn s V fr cs x z):IN P p T mn V r s q (parked (Gr fr cs) #[scase p.bc x z] .send)
def Q8(P:Program)(p:Gp)(T:Tq)(mn:Bool)(V:VW)(r:Rk)(k d:Nat)(s:Ph)(q:c9)(g:Goroutine):Prop:=(s.q=true→QuitsD P k d g)∧(s.q=false→IN P p T mn V r s q g)
section
variable {P:Program}{p:Gp}{T:Tq}{R:Ro}{mn:Bool}{V V':VW}{r:Rk}{s:Ph}{q q':c9}{g g' x:Goroutine}{w':World}{fr:Frame}{cs:List Frame}
theorem Fh.rely{z:Value}(hr:bh V V')(h:Fh P p R mn s V fr cs z):Fh P p R mn s V' fr cs z:=by
 obtain⟨h1,h2,h3,h4,h5,h6,h7,h8,h9⟩:=h;exact⟨h1,h2,h3,h4,h5,h6,h7,fun v1 x g=>h8 v1 x (hr.trans g),fun v1 g=>h9 v1 (hr.trans g)⟩
theorem Jk.rely{x z:Value}(hr:bh V V')(h:Jk P p R mn s V fr cs x z):Jk P p R mn s V' fr cs x z:=by
 obtain⟨h1,h2,h3,h4,h5,h6,h6',h6'',h7,h8,h9⟩:=h;exact⟨h1,h2,h3,h4,h5,h6,h6',h6'',h7,h8,fun v1 g=>h9 v1 (hr.trans g)⟩
theorem IN.pas(h:IN P p T mn V r s q x)(hr:bh V V')(hb:Jf s q→Jf s q'∨(mayWake P g=true∧g'.status= .running))(hcl:q.cl=true→q'.cl=true)(hop:mn=true→s.op=true→q'.cl=false)
 (hch:p.cr=true→∃n,w'.heap[p.bc]? =some (.chan 0 #[] q'.cl n n false)) (hcc:q.cl≠q'.cl→mayWake P g=true∧g'.status= .running):IN P p T mn V' r s q' (Conc.woken P g g' w' x):=by
 have hwk:mayWake P g=true∧g'.status= .running→∀o:Goroutine,Conc.woken P g g' w' o=o.again w':=fun⟨h1,h2⟩ o=>by unfold Conc.woken;rw [h1,h2];rfl
 cases h with
 |run h=>rw [woken_running rfl];exact .run (h.rely hr)
 | @blk fr cs hb' h=>
  have e:({ Gr fr cs with status:=.blocked }:Goroutine).again w'=Gr fr cs:=rfl;rcases hb hb' with h1 |h1
  ·have:Conc.woken P g g' w' { Gr fr cs with status:=.blocked }=Gr fr cs∨Conc.woken P g g' w' { Gr fr cs with status:=.blocked }={ Gr fr cs with status:=.blocked }:=by
    unfold Conc.woken;split
    ·exact .inl e
    ·exact .inr rfl
   rcases this with h2 |h2
   ·rw [h2];exact .run (h.rely hr)
   ·rw [h2];exact .blk h1 (h.rely hr)
  ·rw [hwk h1,e];exact .run (h.rely hr)
 | @rcv fr cs z hc h=>
  obtain⟨n,hch⟩:=hch h.1;cases hq:q'.cl with
  |false=>
   rw [hq] at hch;rw [woken_recv_open g g' hch];exact .rcv hq (h.rely hr)
  |true=>
   rw [hq] at hch;rw [hwk (hcc (by rw [hc,hq];simp)),again_recv_closed hch];exact .rcd hq (h.rely hr)
 |rcd hc h=>rw [woken_running rfl];exact .rcd (hcl hc) (h.rely hr)
 |snd h=>
  obtain⟨n,hch⟩:=hch h.1;rw [hop h.2.1 h.2.2.1] at hch;rw [woken_send_open g g' hch];exact .snd (h.rely hr)
theorem IN.awake(h:IN P p T mn V r s q x):awake x:=by
 cases h with
 |run h=>exact awake_of (.inl rfl)
 |blk hb h=>exact awake_of (.inr (.inl rfl))
 |rcv hc h=>exact awake_of (.inr (.inl rfl))
 |rcd hc h=>exact awake_of (.inl rfl)
 |snd h=>exact awake_of (.inr (.inl rfl))
theorem Q8.awake{k d:Nat}(h:Q8 P p T mn V r k d s q x):Conc.awake x:=by
 cases hq:s.q with
 |true=>exact awake_of ((h.1 hq).status.elim .inl fun h=>.inr (.inr h))
 |false=>exact(h.2 hq).awake
end
def vh(a:Addr)(t:Trace)(j:Nat):Prop:=∃q z,t[q]? =some z∧z.act= .mark (.releaseMerge a)∧t.heard q∧Before t j q
theorem vh.app{a:Addr}{t:Trace}{j:Nat}(u:Trace)(h:vh a t j):vh a (t++u) j:=by
 obtain⟨q,z,h1,h2,h3,h4⟩:=h;have hlt:=lt_size_of_getElem? h1;exact⟨q,z,by rw [getElem?_append_old hlt];exact h1,h2,(heard_old hlt).2 h3,h4.app u⟩
def Nh(p:Gp)(t:Trace)(j:Nat)(op:MemOp):Prop:=t.counts j∨∃x b,op.act.touch? =some x∧blk x.loc=some b∧(b=p.bm∨b=p.bk)
theorem Nh.old{p:Gp}{t u:Trace}{j:Nat}{op:MemOp}(hj:j < t.size)(h:Nh p (t++u) j op):Nh p t j op:=h.imp (qw hj).1 id
structure CW(P:Program)(p:Gp)(T:Tq)(n:Nat)(sg:Nat→Ph)(rk:Nat→Rk)(k:Nat→Nat)(A Z:Nat→Nat→Prop)(q:c9)(gs:Array Goroutine)(w:World)(t:Trace):Prop where
 size:gs.size=n
 tr:vA n w.heap.size t
 domA:∀i b,A i b→b < w.heap.size
 domZ:∀i b,Z i b→b < w.heap.size
 cover:∀i j b,i < n→j < n→i≠j→b < w.heap.size→¬A i b→¬A j b→Z i b∧Z j b
 knows:∀i j x b,i < n→(sg i).q=false→touchAt t j=some x→blk x.loc=some b→¬A i b→(x.write=true∨¬Z i b∨x.kind≠.plain)→Knows t i j
 shk:∀i j x b,i < n→(sg i).q=false→touchAt t j=some x→blk x.loc=some b→p.sh b→Knows t i j∨(x.kind≠.plain∧p.wc x.loc)∨(x.kind= .plain∧x.write=false∧¬p.wc x.loc)
 shs:∀(j:Nat) (x:Touch) (b:Nat),touchAt t j=some x→blk x.loc=some b→p.sh b→x.kind= .said→Knows t 0 j
 lkf:q.h=0→∀i j x,i < n→(sg i).q=false→touchAt t j=some x→blk x.loc=some p.bk→Knows t i j∨vh p.muA t j
 kn:∀(j:Nat) (op:MemOp),t[j]? =some op→Nh p t j op→Knows t 0 j∨(0 < op.g∧(sg op.g).q=false∧(sg op.g).nr=true)∨vh p.stA t j
 jn:(sg 0).jn=true→(sg 0).al=true∧∀(j:Nat) (op:MemOp),t[j]? =some op→Nh p t j op→Knows t 0 j
 deaf:∀i,i < n→(sg i).q=false→Deaf t i=(sg i).df
 sts:∀i g,gs[i]? =some g→Q8 P p T (i == 0) ⟨w,A i,Z i⟩ (rk i) (k i) (Deaf t i) (sg i) q g
 at_:p.At w q
 bk:Bk p n sg q
 shA:∀b,p.sh b→∀i,A i b
 bkl:p.bk < w.heap.size
 bkZ:∀i,¬Z i p.bk
 bkA:∀i,i < n→(A i p.bk↔(sg i).dt=0)
 pp:∀g,gs[0]? =some g→(∃fr cs x z,g=parked (Gr fr cs) #[scase p.bc x z] .send)→∀i g',0 < i→gs[i]? =some g'→¬∃fr cs z,g'=parked (Gr fr cs) #[rcase p.bc z] (.recv true)
 ok:p.Ok
section
variable {P:Program}{p:Gp}{T:Tq}{n:Nat}{sg:Nat→Ph}{rk:Nat→Rk}{k:Nat→Nat}{A Z:Nat→Nat→Prop}{q:c9}{gs:Array Goroutine}{w w':World}{t:Trace}
theorem CW.lt(h:CW P p T n sg rk k A Z q gs w t){i:Nat}{g:Goroutine}(hi:gs[i]? =some g):i < n:=by
 have:=(Array.getElem?_eq_some_iff.1 hi).1;rwa [h.size] at this
theorem CW.others(h:CW P p T n sg rk k A Z q gs w t){i j:Nat}(hi:i < n)(hj:j < n)(hne:j≠i)(hG:eF ⟨w,A i,Z i⟩ w' #[]):bh ⟨w,A j,Z j⟩ ⟨w',K2 A i w.heap.size w'.heap.size j,Z j⟩ where
 keep b hb ha:=by
  refine hG.keep b hb ?_;by_cases h1:A i b
  ·exact .inl h1
  ·exact .inr (h.cover i j b hi hj (fun e=>hne e.symm) hb h1 ha).1
 size:=hG.size
 sub b hb:=.inl hb
 old b hb:=hb.imp id fun x=>x.2.1
 dom hd b hb:=by
  rcases hb with hb |hb
  ·exact Nat.lt_of_lt_of_le (hd b hb) hG.size
  ·exact hb.2.2
 Z:=rfl
 os:=hG.os
 tape:=hG.tape
 output:=hG.output
theorem CW.at(h:CW P p T n sg rk k A Z q gs w t)(d:Nat):CW P p T n sg rk k A Z q gs (w.at d) t:=
 { h with
  sts:=fun i g hg=>by
   have hs:=h.sts i g hg
   refine⟨hs.1,fun hq=>?_⟩
   have hr:=bh.drawn ⟨w,A i,Z i⟩ d
   cases hs.2 hq with
   |run h=>exact .run (h.rely hr)
   |blk hb h=>exact .blk hb (h.rely hr)
   |rcv hc h=>exact .rcv hc (h.rely hr)
   |rcd hc h=>exact .rcd hc (h.rely hr)
   |snd h=>exact .snd (h.rely hr)
  at_:=⟨h.at_.wg,h.at_.ch,h.at_.mu,h.at_.mp⟩ }
theorem pA{g g' o:Goroutine}{w1:World}(h:(Conc.woken P g g' w1 o).status= .blocked):Conc.woken P g g' w1 o=o:=by
 unfold Conc.woken at h⊢;split
 ·rename_i hc;rw [if_pos hc] at h;unfold Goroutine.again at h⊢;split
  ·rename_i h1 h2;simp only [h1,h2] at h;dsimp only at h⊢;split
   ·rename_i h3;rw [if_pos h3] at h;cases h
   ·rfl
  ·rename_i h1 h2;simp only [h1,h2] at h;cases h
  ·rename_i h1;simp only [h1] at h;cases h
  ·rfl
 ·rfl
theorem CW.pp'(h:CW P p T n sg rk k A Z q gs w t){i:Nat}{g g':Goroutine}{w1:World}(hi:gs[i]? =some g)(hs:g'.status≠.blocked):∀g0,((gs.map (Conc.woken P g g' w1)).setIfInBounds i g')[0]? =some g0→(∃fr cs x z,g0=parked (Gr fr cs) #[scase p.bc x z] .send)→∀i1 g1,0 < i1→((gs.map (Conc.woken P g g' w1)).setIfInBounds i g')[i1]? =some g1→¬∃fr cs z,g1=parked (Gr fr cs) #[rcase p.bc z] (.recv true):=by
 intro g0 h0 hg0 i1 g1 hp h1 hg1;have hb0:g0.status= .blocked:=by obtain⟨_,_,_,_,rfl⟩:=hg0;rfl
 have hb1:g1.status= .blocked:=by obtain⟨_,_,_,rfl⟩:=hg1;rfl
 rcases kU hi h0 with⟨_,rfl⟩ |⟨_,y0,hy0,rfl⟩
 ·exact hs hb0
 rcases kU hi h1 with⟨_,rfl⟩ |⟨_,y1,hy1,rfl⟩
 ·exact hs hb1
 rw [pA hb0] at hg0;rw [pA hb1] at hg1;exact h.pp _ hy0 hg0 _ _ hp hy1 hg1
theorem PY{v:VW}{n i:Nat}{fn:FuncId}{pos:String}{es:Array Event}(h:∀e∈es,lC v n e∨p.pk e):∀op∈MemOp.ofEvents i fn pos es,op.g=i∧(∀m,op.act= .mark m→Pl m=true)∧(∀x,op.act.touch? =some x→∃e∈es,x=⟨e.loc,e.write,.plain⟩):=by
 intro op hop;unfold MemOp.ofEvents at hop;split at hop
 ·simp at hop
 ·obtain⟨e,he,rfl⟩:=Array.mem_map.1 hop;rcases h e he with h0 |⟨o,rfl,_⟩
  ·have:=uq (i:=i) (fn:=fn) (pos:=pos) (v:=v) (n:=n) (es:= #[e]) (fun e' he'=>by simp at he';subst he';exact h0) { g:=i,fn,pos,act:=.ofEvent e } (by simp [MemOp.ofEvents]);refine⟨rfl,this.2.1,fun x hx=>?_⟩;obtain⟨e',he',hx'⟩:=this.2.2 x hx;simp at he';subst he';exact⟨e',he,hx'⟩
  ·refine⟨rfl,fun m hm=>by simp [MemAct.ofEvent] at hm,fun x hx=>⟨_,he,?_⟩⟩;simp [MemAct.ofEvent,MemAct.touch?] at hx;exact hx.symm
theorem Fz{v:VW}{n i g:Nat}{t:Trace}{fn:FuncId}{pos:String}{es:Array Event}(h:∀e∈es,lC v n e∨p.pk e):Deaf (t++MemOp.ofEvents i fn pos es) g=Deaf t g:=by
 by_cases hg:i=g
 ·subst hg;rw [Deaf_own];unfold deafBehind;obtain⟨l⟩:=es;simp only [List.foldl_toArray'];generalize Deaf t i=d
  induction l generalizing d with
  |nil=>rfl
  |cons e l ih=>
   have h1:e.loc≠.mark .disable∧e.loc≠.mark .enable:=by
    rcases h e (by simp) with h1 |⟨o,rfl,_⟩
    ·exact uW h1
    ·exact⟨fun h=>(by cases h),fun h=>(by cases h)⟩
   rw [List.foldl_cons]
   have:(match e.loc with | .mark .disable=>d+1 | .mark .enable=>d - 1 |_=>d)=d:=by
    split
    ·rename_i e';exact absurd e' h1.1
    ·rename_i e';exact absurd e' h1.2
    ·rfl
   exact(congrArg (fun d=>List.foldl (fun d (e:Event)=>match e.loc with | .mark .disable=>d+1 | .mark .enable=>d - 1 |_=>d) d l) this).trans (ih (fun e he'=>h e (by simp at he'⊢;exact .inr he')) d)
 ·exact Deaf_other t hg _ fun op hop=>(PY h op hop).1
theorem PX(hok:p.Ok){o:Nat}(h:o≠p.m0.size∧o≠p.m0.size+1):¬p.wc (.cell ⟨p.bm,o,none⟩):=by
 rintro(e |e |⟨hc,e |e |e⟩)
 ·cases e;exact h.1 rfl
 ·cases e;exact h.2 rfl
 ·simp only [Loc.cell.injEq,Addr.mk.injEq] at e;exact(hok.wm hc).1 e.1.symm
 ·simp only [Loc.cell.injEq,Addr.mk.injEq] at e;exact(hok.wm hc).1 e.1.symm
 ·cases e
theorem CW.own(h:CW P p T n sg rk k A Z q gs w t){i:Nat}{r':Rk}{g:Goroutine}{fr fr':Frame}{cs':List Frame}{es:Array Event}(hi:gs[i]? =some g)(hgf:g.frame=fr)(hq:(sg i).q=false)(hG:lB p.pk ⟨w,A i,Z i⟩ w' es)(hn:(sg i).nr=false→es= #[])
 (hw:vz P p T r' (i == 0) (sg i) ⟨w',A i,Z i⟩ fr' cs'):
 CW P p T n sg (upd rk i r') k (K2 A i w.heap.size w'.heap.size) Z q ((gs.map (Conc.woken P g (Gr fr' cs') w')).setIfInBounds i (Gr fr' cs')) w' (t++MemOp.ofEvents i fr.fn fr.place es):=by
 have hin:=h.lt hi
 have hops:=PY (p:=p) (i:=i) (fn:=fr.fn) (pos:=fr.place) hG.evs
 have hD:∀j,Deaf (t++MemOp.ofEvents i fr.fn fr.place es) j=Deaf t j:=fun j=>Fz hG.evs
 have hbm:p.sh p.bm:=.inl rfl
 have hnew:∀{op:MemOp} {x:Touch} {b:Nat},op∈MemOp.ofEvents i fr.fn fr.place es→op.act.touch? =some x→blk x.loc=some b→x.kind= .plain∧((b < w'.heap.size∧¬A i b∧(x.write=true→¬Z i b))∨(b=p.bm∧x.write=false∧¬p.wc x.loc)):=fun {op x b} hu hx hb=>by
  obtain⟨e,he,rfl⟩:=(hops op hu).2.2 x hx;rcases hG.evs e he with h1 |⟨o,rfl,ho⟩
  ·have:=ru h1 hb;exact⟨rfl,.inl ⟨this.1,this.2.1,this.2.2⟩⟩
  ·cases hb;exact⟨rfl,.inr ⟨rfl,rfl,PX h.ok ho⟩⟩
 have hsz:=hG.base.size
 have hkeep:∀b,A i b→w'.heap[b]? =w.heap[b]? :=fun b hb=>hG.base.keep b (h.domA i b hb) (.inl hb)
 have hsh:∀b,p.sh b→w'.heap[b]? =w.heap[b]? :=fun b hb=>hkeep b (h.shA b hb i)
 have hdt0:q.h=0→A i p.bk:=fun e=>by
  rw [h.bkA i hin];have:=jY (sg:=sg) (f:=Ph.dt) hin;have:=h.bk.h;omega
 have hAt:p.At w' q:=⟨fun hc=>(hsh _ (.inr ⟨hc,.inl rfl⟩)).trans (h.at_.wg hc),fun hc=>(hsh _ (.inr ⟨hc,.inr rfl⟩)).trans (h.at_.ch hc),(hsh _ hbm).trans h.at_.mu,fun e=>by rw [hkeep _ (hdt0 e)];exact h.at_.mp e⟩
 refine⟨by simp [h.size],?_,fun j b hb=>?_,fun j b hb=>Nat.lt_of_lt_of_le (h.domZ j b hb) hsz,fun i1 j1 b hi1 hj1 hne hb h1 h2=>?_,fun i1 j x b hi1 ha1 hx hb hA hZ=>?_,fun i1 j x b hi1 ha1 hx hb hs=>?_,fun j x b hx hb hs hk=>?_,fun e i1 j x hi1 ha1 hx hb=>?_,fun j op hop hc=>?_,fun e=>⟨(h.jn e).1,fun j op hop hc=>?_⟩,fun j hj hjq=>by rw [hD];exact h.deaf j hj hjq,fun j x hx=>?_,hAt,h.bk,fun b hb j=>.inl (h.shA b hb j),Nat.lt_of_lt_of_le h.bkl hsz,h.bkZ,fun j hj=>?_,?_,h.ok⟩
 ·
  refine h.tr.app hsz hin (fun op hop=>(hops op hop).1) (fun op hop x hx b hb=>?_) (fun op hop a e=>?_) fun j x hx op hop y hy said hc=>?_
  ·rcases(hnew hop hx hb).2 with h1 |h1
   ·exact h1.1
   ·rw [h1.1];exact Nat.lt_of_lt_of_le (h.domA i _ (h.shA _ hbm i)) hsz
  ·have:=(hops op hop).2.1 _ e;cases this
  ·obtain⟨c1,c2,c3,_⟩:=hc;obtain⟨b,hb⟩:=yi c2;rcases(hnew hop hy (c1▸hb)).2 with h1 |⟨h1,h2,h3⟩
   ·exact h.knows i j x b hin hq hx hb h1.2.1 (c3.imp id fun e=>.inl (h1.2.2 e))
   ·subst h1;rcases h.shk i j x _ hin hq hx hb hbm with h4 |⟨_,h4⟩ |⟨_,h4,_⟩
    ·exact h4
    ·exact absurd (c1▸h4) h3
    ·rw [h4,h2] at c3;simp at c3
 ·
  rcases hb with hb |hb
  ·exact Nat.lt_of_lt_of_le (h.domA j b hb) hsz
  ·exact hb.2.2
 ·
  have hlt:b < w.heap.size:=by
   rcases Nat.lt_or_ge b w.heap.size with hlt |hge
   ·exact hlt
   ·exfalso;by_cases e:i1=i
    ·exact h2 (.inr ⟨fun e'=>hne (e.trans e'.symm),hge,hb⟩)
    ·exact h1 (.inr ⟨e,hge,hb⟩)
  exact h.cover i1 j1 b hi1 hj1 hne hlt (fun x=>h1 (.inl x)) fun x=>h2 (.inl x)
 ·
  obtain⟨op,hop,hxa⟩:=touch_of hx;rcases getElem?_append_cases hop with⟨_,hop'⟩ |⟨_,hu⟩
  ·exact(h.knows i1 j x b hi1 ha1 (by rw [touchAt_of hop'];exact hxa) hb (fun y=>hA (.inl y)) hZ).app _
  ·by_cases e:i1=i
   ·subst e;have:=knows_own hop;rwa [(hops op hu).1] at this
   ·obtain⟨hk,⟨hb1,hb2,hb3⟩ |⟨hb1,_⟩⟩:=hnew hu hxa hb
    ·have hlt:b < w.heap.size:=by
      rcases Nat.lt_or_ge b w.heap.size with hlt |hge
      ·exact hlt
      ·exact absurd (.inr ⟨e,hge,hb1⟩) hA
     obtain⟨z1,z2⟩:=h.cover i i1 b hin hi1 (fun e'=>e e'.symm) hlt hb2 fun y=>hA (.inl y);rcases hZ with hZ |hZ |hZ
     ·exact absurd z1 (hb3 hZ)
     ·exact absurd z2 hZ
     ·exact absurd hk hZ
    ·exact absurd (.inl (h.shA b (hb1▸hbm) i1)) hA
 ·
  obtain⟨op,hop,hxa⟩:=touch_of hx;rcases getElem?_append_cases hop with⟨_,hop'⟩ |⟨_,hu⟩
  ·exact(h.shk i1 j x b hi1 ha1 (by rw [touchAt_of hop'];exact hxa) hb hs).imp (·.app _) id
  ·obtain⟨hk,⟨_,hb2,_⟩ |⟨_,hb2,hb3⟩⟩:=hnew hu hxa hb
   ·exact absurd (h.shA b hs i) hb2
   ·exact .inr (.inr ⟨hk,hb2,hb3⟩)
 ·
  obtain⟨op,hop,hxa⟩:=touch_of hx;rcases getElem?_append_cases hop with⟨_,hop'⟩ |⟨_,hu⟩
  ·exact(h.shs j x b (by rw [touchAt_of hop'];exact hxa) hb hs hk).app _
  ·rw [(hnew hu hxa hb).1] at hk;cases hk
 ·
  obtain⟨op,hop,hxa⟩:=touch_of hx;rcases getElem?_append_cases hop with⟨_,hop'⟩ |⟨_,hu⟩
  ·exact(h.lkf e i1 j x hi1 ha1 (by rw [touchAt_of hop'];exact hxa) hb).imp (·.app _) (·.app _)
  ·rcases(hnew hu hxa hb).2 with h1 |h1
   ·exact absurd (hdt0 e) h1.2.1
   ·exact absurd h1.1.symm h.ok.mb
 ·
  rcases getElem?_append_cases hop with⟨hlt,hop'⟩ |⟨_,hu⟩
  ·exact(h.kn j op hop' (hc.old hlt)).imp (·.app _) (.imp id (·.app _))
  ·have hg:=(hops op hu).1;rcases Nat.eq_zero_or_pos i with e |hp
   ·left;subst e;have:=knows_own hop;rwa [hg] at this
   ·refine .inr (.inl ⟨by rw [hg];exact hp,by rw [hg];exact hq,?_⟩);rw [hg];cases hnr:(sg i).nr with
    |true=>rfl
    |false=>rw [hn hnr] at hu;simp [MemOp.ofEvents] at hu
 ·
  rcases getElem?_append_cases hop with⟨hlt,hop'⟩ |⟨_,hu⟩
  ·exact((h.jn e).2 j op hop' (hc.old hlt)).app _
  ·have hg:=(hops op hu).1
   have e0:i=0:=by
    rcases Nat.eq_zero_or_pos i with e0 |hp
    ·exact e0
    ·have:=h.bk.gone (h.jn e).1 i hp hin;rw [hq] at this;cases this
   subst e0;have:=knows_own hop;rwa [hg] at this
 ·
  rcases kU hi hx with⟨rfl,rfl⟩ |⟨hne,y,hy,rfl⟩
  ·rw [H7,bi];exact⟨fun e=>(by rw [hq] at e;cases e),fun _=>.run hw⟩
  ·have hs:=h.sts j y hy;rw [aX hne,hD];refine⟨fun e=>?_,fun e=>?_⟩
   ·rw [woken_quitsD (hs.1 e)];exact hs.1 e
   ·exact(hs.2 e).pas (h.others hin (h.lt hy) hne hG.base) .inl id (fun hm ho=>h.bk.op (by rw [show(0:Nat)=j from(by simpa using hm:j=0).symm];exact ho)) (fun hc=>⟨q.cs,hAt.ch hc⟩) fun e=>absurd rfl e
 ·
  rw [←h.bkA j hj];exact⟨fun e=>e.elim id fun x=>absurd h.bkl (by omega),.inl⟩
 ·
  exact h.pp' hi (fun e=>by cases e)
end
theorem zI{k:Nat→Nat}{i j:Nat}:∀{n:Nat},i < n→j < n→i≠j→k i+k j≤aF k n
 |n+1,hi,hj,hne=>by
  simp only [aF]
  by_cases e:i=n
  ·
   subst e
   have:=tQ (k:=k) (n:=i) (i:=j) (by omega)
   omega
  ·
   by_cases e':j=n
   ·
    subst e'
    have:=tQ (k:=k) (n:=j) (i:=i) (by omega)
    omega
   ·
    have:=zI (k:=k) (n:=n) (i:=i) (j:=j) (by omega) (by omega) hne
    omega
theorem IC{n i j:Nat}{sg:Nat→Ph}{f:Ph→Nat}(hi:i < n)(hj:j < n)(hne:i≠j):f (sg i)+f (sg j)≤al n sg f:=zI (k:=fun i=>f (sg i)) hi hj hne
theorem Bk.dt1{p:Gp}{n:Nat}{sg:Nat→Ph}{q:c9}(h:Bk p n sg q):al n sg Ph.dt≤1:=by
 have h1:al n sg Ph.dt≤al n sg Ph.hd:=ju fun j hj=>(h.ok j hj).dt;have:=h.hd;have:=h.le;omega
theorem vh.acq{a:Addr}{t:Trace}{j i:Nat}{z:MemOp}(h:vh a t j)(hz:z.g=i∧z.act= .mark (.acquire a))(hd:Deaf t i=0)(hr:∀op∈t,∀a,op.act≠.mark (.release a)):Knows (t++ #[z]) i j:=by
 obtain⟨q,y,h1,h2,h3,h4⟩:=h;have hlt:=lt_size_of_getElem? h1;have hzp:(t++ #[z])[t.size]? =some z:=by rw [Array.getElem?_append_right (Nat.le_refl _)];simp
 have hyp:(t++ #[z])[q]? =some y:=by rw [getElem?_append_old hlt];exact h1
 have e0:(t++ #[z]).heard t.size:=⟨i,by simp [Trace.g?,hzp,hz.1],by rw [deaf_old (Nat.le_refl _)];exact hd⟩;have e1:(t++ #[z]).heard q:=(heard_old hlt).2 h3
 have hb:HappensBefore (t++ #[z]) q t.size:=.single (.inr ⟨.marked (a:=a) hlt (.inr (by rw [act?_of hyp,h2])) (by rw [act?_of hzp,hz.2]) (fun k h1 h2 h3=>by
  have hk:(t++ #[z]).act? k=t.act? k:=by simp only [Trace.act?,getElem?_append_old h2]
  rw [hk] at h3;obtain⟨op,hop,ho⟩:=Option.map_eq_some_iff.1 h3;exact hr op (mem_of_getElem? hop) _ ho),e1,e0⟩)
 exact⟨t.size,z,hzp,hz.1,.inr ((h4.app _).hb hb)⟩
theorem Ap{a:Addr}{t:Trace}{j i:Nat}{z:MemOp}(h:Knows t i j)(hz:z.g=i∧z.act= .mark (.releaseMerge a))(hd:Deaf t i=0):vh a (t++ #[z]) j:=by
 obtain⟨q,y,h1,h2,h3⟩:=h;have hlt:=lt_size_of_getElem? h1;have hzp:(t++ #[z])[t.size]? =some z:=by rw [Array.getElem?_append_right (Nat.le_refl _)];simp
 have hyp:(t++ #[z])[q]? =some y:=by rw [getElem?_append_old hlt];exact h1
 exact⟨t.size,z,hzp,hz.2,⟨i,by simp [Trace.g?,hzp,hz.1],by rw [deaf_old (Nat.le_refl _)];exact hd⟩,.inr ((h3.app _).hb (hb_po hlt hyp hzp (h2.trans hz.1.symm)))⟩
theorem oe{i:Nat}{fn:FuncId}{pos:String}{m:Mark}:MemOp.ofEvents i fn pos #[iL m]= #[{ g:=i,fn:=fn,pos:=pos,act:=.mark m }]:=by
 rw [ofEvents_eq];simp [iL,MemAct.ofEvent]
section
variable {P:Program}{p:Gp}{T:Tq}{n:Nat}{sg:Nat→Ph}{rk:Nat→Rk}{k:Nat→Nat}{A Z:Nat→Nat→Prop}{q q':c9}{gs:Array Goroutine}{w w':World}{t:Trace}
theorem CW.quitStep(h:CW P p T n sg rk k A Z q gs w t){i m:Nat}{g g':Goroutine}{es:Array Event}{fn:FuncId}{pos:String}(hi:gs[i]? =some g)(hs:(sg i).q=true)(hes:∀e∈es,Event.mute e=true)(hq:QuitsD P m (deafBehind (Deaf t i) es) g'):
 CW P p T n sg rk (upd k i m) A Z q ((gs.map (Conc.woken P g g' w)).setIfInBounds i g') w (t++MemOp.ofEvents i fn pos es):=by
 have hin:=h.lt hi
 have hmu:=ze (i:=i) (fn:=fn) (pos:=pos) hes
 have hg:=fun op ho=>(hmu op ho).1
 have ht:=fun op ho=>(hmu op ho).2.1
 have hoth:∀j,j≠i→Deaf (t++MemOp.ofEvents i fn pos es) j=Deaf t j:=fun j hj=>Deaf_other t (fun e=>hj e.symm) _ hg
 have hnc:∀{j:Nat} {op:MemOp},op∈MemOp.ofEvents i fn pos es→(t++MemOp.ofEvents i fn pos es)[j]? =some op→¬Nh p (t++MemOp.ofEvents i fn pos es) j op:=fun {j op} hm hop hc=>by
  rcases hc with⟨x,hx,_⟩ |⟨x,b,hx,_⟩
  ·obtain⟨op',hop2,hxa⟩:=touch_of hx;rw [hop] at hop2;cases hop2;rw [ht op hm] at hxa;cases hxa
  ·rw [ht op hm] at hx;cases hx
 refine { h with size:=by simp [h.size],tr:=h.tr.words hin hg ht fun op ho=>(hmu op ho).2.2.1,knows:=fun i1 j x b h1 h2 hx hb ha hz=>(h.knows i1 j x b h1 h2 (cP ht hx).2 hb ha hz).app _,shk:=fun i1 j x b h1 h2 hx hb hs'=>(h.shk i1 j x b h1 h2 (cP ht hx).2 hb hs').imp (·.app _) id,shs:=fun j x b hx hb hs' hk=>(h.shs j x b (cP ht hx).2 hb hs' hk).app _,lkf:=fun e i1 j x h1 h2 hx hb=>(h.lkf e i1 j x h1 h2 (cP ht hx).2 hb).imp (·.app _) (·.app _),kn:=fun j op hop hc=>?_,jn:=fun e=>⟨(h.jn e).1,fun j op hop hc=>?_⟩,deaf:=fun j hjn hq=>by rw [hoth j fun e=>by rw [e,hs] at hq;cases hq];exact h.deaf j hjn hq,sts:=fun j x hx=>?_,pp:=h.pp' hi fun e=>by rcases hq.status with h1 |h1 <;> rw [h1] at e <;> cases e }
 ·
  rcases getElem?_append_cases hop with⟨hlt,hop'⟩ |⟨_,hm⟩
  ·exact(h.kn j op hop' (hc.old hlt)).imp (·.app _) (.imp id (·.app _))
  ·exact absurd hc (hnc hm hop)
 ·
  rcases getElem?_append_cases hop with⟨hlt,hop'⟩ |⟨_,hm⟩
  ·exact((h.jn e).2 j op hop' (hc.old hlt)).app _
  ·exact absurd hc (hnc hm hop)
 ·
  rcases kU hi hx with⟨rfl,rfl⟩ |⟨hne,y,hy,rfl⟩
  ·rw [bi,Deaf_own];exact⟨fun _=>hq,fun e=>(by rw [hs] at e;cases e)⟩
  ·have hs':=h.sts j y hy;rw [aX hne,hoth j hne];refine⟨fun e=>?_,fun e=>?_⟩
   ·rw [woken_quitsD (hs'.1 e)];exact hs'.1 e
   ·exact(hs'.2 e).pas (bh.refl _) .inl id (fun hm ho=>h.bk.op (by rw [show(0:Nat)=j from(by simpa using hm:j=0).symm];exact ho)) (fun hc=>⟨q.cs,h.at_.ch hc⟩) fun e=>absurd rfl e
structure IP(p:Gp)(i:Nat)(u:Trace):Prop where
 num:∀op∈u,op.g=i
 touch:∀op∈u,∀x,op.act.touch? =some x→∃b,blk x.loc=some b∧p.sh b∧p.wc x.loc∧(x.kind= .atomic∨(x.kind= .said∧i=0))
 rel:∀op∈u,∀a,op.act≠.mark (.release a)
theorem t4{l:Loc}(h:p.wc l):∃b,blk l=some b∧p.sh b:=by
 rcases h with rfl |rfl |⟨hc,rfl |rfl |rfl⟩
 ·exact⟨_,rfl,.inl rfl⟩
 ·exact⟨_,rfl,.inl rfl⟩
 ·exact⟨_,rfl,.inr ⟨hc,.inl rfl⟩⟩
 ·exact⟨_,rfl,.inr ⟨hc,.inl rfl⟩⟩
 ·exact⟨_,rfl,.inr ⟨hc,.inr rfl⟩⟩
theorem mh.ops{mn:Bool}{s s':Ph}{es:Array Event}(h:mh p mn s s' es){i:Nat}{fn:FuncId}{pos:String}(hm:mn=true→i=0):IP p i (MemOp.ofEvents i fn pos es):=by
 have hop:∀op∈MemOp.ofEvents i fn pos es,∃e∈es,op={ g:=i,fn,pos,act:=.ofEvent e }:=fun op ho=>by
  unfold MemOp.ofEvents at ho;split at ho
  ·simp at ho
  ·obtain⟨e,he,rfl⟩:=Array.mem_map.1 ho;exact⟨e,he,rfl⟩
 refine⟨fun op ho=>?_,fun op ho x hx=>?_,fun op ho a ha=>?_⟩
 ·obtain⟨e,_,rfl⟩:=hop op ho;rfl
 ·obtain⟨e,he,rfl⟩:=hop op ho;rcases h.sh e he with⟨l,wr,rfl,hw⟩ |rfl |rfl |⟨a,rfl⟩ |⟨a,rfl⟩ |⟨h0,a,rfl |rfl,hw⟩
  ·obtain⟨b,hb,hs⟩:=t4 hw
   have key:x=⟨l,wr,.atomic⟩:=by
    cases l with
    |cell a=>simpa [MemAct.ofEvent,MemAct.touch?,eq_comm] using hx
    |obj c=>cases wr <;> simp [MemAct.ofEvent,MemAct.touch?,eq_comm] at hx⊢;exact hx
    |_=>cases hb
   subst key;exact⟨b,hb,hs,hw,.inl rfl⟩
  ·simp [MemAct.ofEvent,iL,MemAct.touch?] at hx
  ·simp [MemAct.ofEvent,iL,MemAct.touch?] at hx
  ·simp [MemAct.ofEvent,iL,MemAct.touch?] at hx
  ·simp [MemAct.ofEvent,iL,MemAct.touch?] at hx
  ·obtain⟨b,hb,hs⟩:=t4 hw;simp [MemAct.ofEvent,iL,MemAct.touch?] at hx;subst hx;exact⟨b,hb,hs,hw,.inr ⟨rfl,hm h0⟩⟩
  ·obtain⟨b,hb,hs⟩:=t4 hw;simp [MemAct.ofEvent,iL,MemAct.touch?] at hx;subst hx;exact⟨b,hb,hs,hw,.inr ⟨rfl,hm h0⟩⟩
 ·obtain⟨e,he,rfl⟩:=hop op ho;rcases h.sh e he with⟨l,wr,rfl,hw⟩ |rfl |rfl |⟨a,rfl⟩ |⟨a,rfl⟩ |⟨h0,a,rfl |rfl,hw⟩
  ·obtain⟨b,hb,_⟩:=t4 hw;cases l with
   |cell a=>simp [MemAct.ofEvent] at ha
   |obj c=>cases wr <;> simp [MemAct.ofEvent] at ha
   |_=>cases hb
  all_goals simp [MemAct.ofEvent,iL] at ha
theorem GK(hok:p.Ok){b:Nat}(h:p.sh b):b≠p.bk:=by
 rcases h with rfl |⟨hc,rfl |rfl⟩
 ·exact hok.mb
 ·exact(hok.wm hc).2.1
 ·exact(hok.cm hc).2
theorem CW.tr_ops(h:CW P p T n sg rk k A Z q gs w t){i:Nat}{u:Trace}(hin:i < n)(hiq:(sg i).q=false)(hu:IP p i u):vA n w.heap.size (t++u):=by
 refine h.tr.app (Nat.le_refl _) hin hu.num (fun op ho x hx b hb=>?_) hu.rel fun j x hx op ho y hy said hc=>?_
 ·obtain⟨b',hb',hs,_⟩:=hu.touch op ho x hx;rw [hb] at hb';cases hb';exact h.domA 0 b (h.shA b hs 0)
 ·obtain⟨b,hb,hs,hw,hk⟩:=hu.touch op ho y hy;obtain⟨c1,c2,c3,c4⟩:=hc;rw [←c1] at hb hw;rcases h.shk i j x b hin hiq hx hb hs with h1 |⟨h1,_⟩ |⟨_,_,h1⟩
  ·exact h1
  ·rcases c4 with c4 |c4 |⟨_,c4,c5⟩
   ·exact absurd c4 h1
   ·rcases hk with hk |⟨hk,_⟩ <;> (rw [hk] at c4;cases c4)
   ·rcases hk with hk |⟨_,hk⟩
    ·rw [hk] at c5;cases c5
    ·rw [hk];exact h.shs j x b hx hb hs c4
  ·exact absurd hw h1
theorem Gp.Eff.rely(h:p.Eff w w' q){a z:Nat→Prop}(ha:∀b,p.sh b→a b):bh ⟨w,a,z⟩ ⟨w',a,z⟩ where
 keep b _ hb:=h.keep b fun x=>hb (ha b x)
 size:=Nat.le_of_eq h.size.symm
 sub _ hb:=hb
 old _ hb:=.inl hb
 dom hd b hb:=by show b < w'.heap.size;rw [h.size];exact hd b hb
 Z:=rfl
 os:=.of h.os
 tape:=h.tape
 output:=h.output
theorem CW.act(h:CW P p T n sg rk k A Z q gs w t){i:Nat}{r':Rk}{g:Goroutine}{fr fr':Frame}{cs':List Frame}{es:Array Event}{s':Ph}(hi:gs[i]? =some g)(hgf:g.frame=fr)(hs:(sg i).q=false)(hE:p.Eff w w' q')(hS:Sv p (i == 0) (sg i) q s' q')(hV:mh p (i == 0) (sg i) s' es)
 (hwk:(q.T < q'.T∨q.sm < q'.sm∨q.cl≠q'.cl)→mayWake P g=true) (hcl:q.cl=true→q'.cl=true)
 (hw:s'.q=false→vz P p T r' (i == 0) s' ⟨w',p.sA s'.dt (A i),Z i⟩ fr' cs') (hq:s'.q=true→(i == 0)=false∧∃m,QuitsD P m 1 (Gr fr' cs')):
 ∃k',CW P p T n (upd sg i s') (upd rk i r') (upd k i k') (upd A i (p.sA s'.dt (A i))) Z q' ((gs.map (Conc.woken P g (Gr fr' cs') w')).setIfInBounds i (Gr fr' cs')) w' (t++MemOp.ofEvents i fr.fn fr.place es):=by
 have hin:=h.lt hi
 have hm0:(i == 0)=true→i=0:=fun e=>by simpa using e
 have hm1:i≠0→(i == 0)=false:=fun e=>by simpa using e
 have hu:IP p i (MemOp.ofEvents i fr.fn fr.place es):=hV.ops hm0
 have hbk':Bk p n (upd sg i s') q':=hS n sg i hin (by simp) rfl h.bk
 have hA:∀j b,b≠p.bk→(upd A i (p.sA s'.dt (A i)) j b↔A j b):=fun j b hb=>by
  by_cases e:j=i
  ·subst e;rw [bi];simp only [Gp.sA,if_neg hb]
  ·rw [aX e]
 have hAk:∀j,j < n→(upd A i (p.sA s'.dt (A i)) j p.bk↔(upd sg i s' j).dt=0):=fun j hj=>by
  by_cases e:j=i
  ·subst e;rw [bi,bi];simp only [Gp.sA,if_true]
  ·rw [aX e,aX e];exact h.bkA j hj
 have hqq:∀j,(upd sg i s' j).q=false→(sg j).q=false:=fun j hj=>by
  by_cases e:j=i
  ·rw [e];exact hs
  ·rwa [aX e] at hj
 have hDi:Deaf t i=(sg i).df:=h.deaf i hin hs
 have hoth:∀j,j≠i→Deaf (t++MemOp.ofEvents i fr.fn fr.place es) j=Deaf t j:=fun j hj=>Deaf_other t (fun e=>hj e.symm) _ hu.num
 have hown:Deaf (t++MemOp.ofEvents i fr.fn fr.place es) i=if s'.q=true then 1 else s'.df:=by
  rw [Deaf_own,hDi];exact hV.df
 have hold:∀{j:Nat} {x:Touch} {b:Nat},touchAt (t++MemOp.ofEvents i fr.fn fr.place es) j=some x→blk x.loc=some b→¬p.sh b→touchAt t j=some x:=fun {j x b} hx hb hnb=>by
  obtain⟨op,hop,hxa⟩:=touch_of hx;rcases getElem?_append_cases hop with⟨_,hop'⟩ |⟨_,hm⟩
  ·rw [touchAt_of hop'];exact hxa
  ·obtain⟨b',hb',hs',_⟩:=hu.touch op hm x hxa;rw [hb] at hb';cases hb';exact absurd hs' hnb
 have hbkn:¬p.sh p.bk:=fun e=>GK h.ok e rfl
 have hfree:(sg i).dt=0→s'.dt≠0→q.h=0:=fun e1 e2=>by
  have h1:=hbk'.dt1;have h2:=eI (sg:=sg) (f:=Ph.dt) (s:=s') hin;have h3:=h.bk.h;omega
 obtain⟨k',hk'⟩:∃k',s'.q=true→QuitsD P k' 1 (Gr fr' cs'):=by
  by_cases e:s'.q=true
  ·obtain⟨_,m,hm⟩:=hq e;exact⟨m,fun _=>hm⟩
  ·exact⟨0,fun e'=>absurd e' e⟩
 refine⟨k',by simp [h.size],by rw [hE.size];exact h.tr_ops hin hs hu,fun j b hb=>?_,fun j b hb=>by rw [hE.size];exact h.domZ j b hb,fun i1 j1 b h1 h2 hne hb g1 g2=>?_,fun i1 j x b h1 h2 hx hb ha hz=>?_,fun i1 j x b h1 h2 hx hb hsh=>?_,fun j x b hx hb hsh hk=>?_,fun e i1 j x h1 h2 hx hb=>?_,fun j op hop hc=>?_,fun e=>?_,fun j hjn hjq=>?_,fun j x hx=>?_,hE.at_,hbk',fun b hb j=>(hA j b (GK h.ok hb)).2 (h.shA b hb j),by rw [hE.size];exact h.bkl,h.bkZ,hAk,h.pp' hi (fun e=>by cases e),h.ok⟩
 ·
  rw [hE.size];by_cases e:b=p.bk
  ·rw [e];exact h.bkl
  ·exact h.domA j b ((hA j b e).1 hb)
 ·
  by_cases e:b=p.bk
  ·exfalso;subst e;rw [hAk i1 h1] at g1;rw [hAk j1 h2] at g2;have:=IC (sg:=upd sg i s') (f:=Ph.dt) h1 h2 hne;have:=hbk'.dt1;omega
  ·exact h.cover i1 j1 b h1 h2 hne (by rw [←hE.size];exact hb) (fun x=>g1 ((hA i1 b e).2 x)) fun x=>g2 ((hA j1 b e).2 x)
 ·
  by_cases hsh:p.sh b
  ·exact absurd ((hA i1 b (GK h.ok hsh)).2 (h.shA b hsh i1)) ha
  ·have hxo:=hold hx hb hsh;by_cases e:b=p.bk
   ·subst e;rw [hAk i1 h1] at ha;by_cases e1:i1=i
    ·subst e1;rw [bi] at ha;by_cases e2:(sg i1).dt=0
     ·obtain⟨g1,g2⟩:=hV.acq (by omega) (by have:=hV.dt;omega);subst g1;rw [oe];rcases h.lkf (hfree e2 ha) i1 j x h1 hs hxo hb with g3 |g3
      ·exact g3.app _
      ·exact g3.acq ⟨rfl,rfl⟩ (hDi.trans g2) h.tr.norel
     ·exact(h.knows i1 j x _ h1 hs hxo hb (fun y=>e2 ((h.bkA i1 h1).1 y)) (.inr (.inl (h.bkZ i1)))).app _
    ·rw [aX e1] at ha;exact(h.knows i1 j x _ h1 (hqq i1 h2) hxo hb (fun y=>ha ((h.bkA i1 h1).1 y)) (.inr (.inl (h.bkZ i1)))).app _
   ·exact(h.knows i1 j x b h1 (hqq i1 h2) hxo hb (fun y=>ha ((hA i1 b e).2 y)) hz).app _
 ·
  obtain⟨op,hop,hxa⟩:=touch_of hx;rcases getElem?_append_cases hop with⟨_,hop'⟩ |⟨_,hm⟩
  ·exact(h.shk i1 j x b h1 (hqq i1 h2) (by rw [touchAt_of hop'];exact hxa) hb hsh).imp (·.app _) id
  ·obtain⟨_,_,_,hwc,hkk⟩:=hu.touch op hm x hxa;exact .inr (.inl ⟨fun e=>(by rcases hkk with hkk |⟨hkk,_⟩ <;> rw [e] at hkk <;> cases hkk),hwc⟩)
 ·
  obtain⟨op,hop,hxa⟩:=touch_of hx;rcases getElem?_append_cases hop with⟨_,hop'⟩ |⟨_,hm⟩
  ·exact(h.shs j x b (by rw [touchAt_of hop'];exact hxa) hb hsh hk).app _
  ·obtain⟨_,_,_,_,hkk⟩:=hu.touch op hm x hxa;rcases hkk with hkk |⟨_,hkk⟩
   ·rw [hk] at hkk;cases hkk
   ·have:=knows_own hop;rw [hu.num op hm] at this;subst hkk;exact this
 ·
  have hxo:=hold hx hb hbkn;by_cases e0:q.h=0
  ·exact(h.lkf e0 i1 j x h1 (hqq i1 h2) hxo hb).imp (·.app _) (·.app _)
  ·have h3:=eI (sg:=sg) (f:=Ph.dt) (s:=s') hin;have h4:=h.bk.h;have h5:=hbk'.h;have h6:=h.bk.dt1;have h7:=jY (sg:=sg) (f:=Ph.dt) hin;have e1:(sg i).dt≠0:=by omega
   have e2:s'.dt=0:=by omega
   obtain⟨g1,g2⟩:=hV.rel (by omega) e2;subst g1;rw [oe];exact .inr (Ap (h.knows i j x _ hin hs hxo hb (fun y=>e1 ((h.bkA i hin).1 y)) (.inr (.inl (h.bkZ i)))) ⟨rfl,rfl⟩ (hDi.trans g2))
 ·
  rcases getElem?_append_cases hop with⟨hlt,hop'⟩ |⟨hge,hm⟩
  ·rcases h.kn j op hop' (hc.old hlt) with h1 |⟨h1,h2,h2'⟩ |h1
   ·exact .inl (h1.app _)
   ·by_cases e:op.g=i
    ·by_cases e1:s'.nr=true
     ·refine .inr (.inl ⟨h1,?_,by rw [e,bi];exact e1⟩);rw [e,bi];cases hq':s'.q with
      |false=>rfl
      |true=>
       have:=hbk'.ok i hin;rw [bi] at this;rw [this.quit hq'] at e1;cases e1
     ·rw [e] at h2';obtain⟨g1,g2⟩:=hV.nr h2' (by simpa using e1);subst g1;rw [oe];have hko:=knows_own hop';rw [e] at hko;exact .inr (.inr (Ap hko ⟨rfl,rfl⟩ (hDi.trans g2)))
    ·exact .inr (.inl ⟨h1,by rw [aX e];exact h2,by rw [aX e];exact h2'⟩)
   ·exact .inr (.inr (h1.app _))
  ·have hg:=hu.num op hm;rcases Nat.eq_zero_or_pos i with e0 |hp
   ·left;have:=knows_own hop;rw [hg] at this;subst e0;exact this
   ·have hmn:=hm1 (by omega)
    have htx:∃x,op.act.touch? =some x∧(t++MemOp.ofEvents i fr.fn fr.place es)[j]? =some op:=by
     rcases hc with⟨x,hx,_⟩ |⟨x,b,hx,_⟩
     ·obtain⟨op',hop2,hxa⟩:=touch_of hx;rw [hop] at hop2;cases hop2;exact⟨x,hxa,hop⟩
     ·exact⟨x,hx,hop⟩
    obtain⟨x,hxa,_⟩:=htx;by_cases e1:s'.nr=true
    ·refine .inr (.inl ⟨by rw [hg];exact hp,?_,by rw [hg,bi];exact e1⟩);rw [hg,bi];cases hq':s'.q with
     |false=>rfl
     |true=>
      have:=hbk'.ok i hin;rw [bi] at this;rw [this.quit hq'] at e1;cases e1
    ·exfalso;by_cases e2:(sg i).nr=true
     ·obtain⟨g1,_⟩:=hV.nr e2 (by simpa using e1);subst g1;rw [oe] at hm;simp at hm;subst hm;simp [MemAct.touch?] at hxa
     ·obtain⟨hcr,hbw⟩:=hV.bw hmn (by simpa using e2)
      have hop':∃e∈es,op={ g:=i,fn:=fr.fn,pos:=fr.place,act:=.ofEvent e }:=by
       unfold MemOp.ofEvents at hm;split at hm
       ·simp at hm
       ·obtain⟨e,he,rfl⟩:=Array.mem_map.1 hm;exact⟨e,he,rfl⟩
      have hsz:j - t.size < es.size:=by
       have:=lt_size_of_getElem? hop;rw [Array.size_append] at this;have e2:(MemOp.ofEvents i fr.fn fr.place es).size=es.size:=by rw [ofEvents_eq];simp
       omega
      rcases hc with⟨y,hy,_,hcc⟩ |⟨y,b,hy,hyb,hne⟩
      ·obtain⟨op2,hop2,hya⟩:=touch_of hy;rw [hop] at hop2;cases hop2;obtain⟨_,_,_,_,hkk⟩:=hu.touch op hm y hya;have hat:y.kind= .atomic:=hkk.elim id fun x=>absurd x.2 (by omega);have hh:(t++MemOp.ofEvents i fr.fn fr.place es).heard j:=hcc.elim (fun x=>absurd hat x) id;obtain⟨g',hg1,hg2⟩:=hh
       have hgi:g'=i:=by
        simp only [Trace.g?,hop,Option.map_some,Option.some.injEq] at hg1;rw [←hg1,hg]
       subst hgi;have hd:=deaf_inside t g' fr.fn fr.place es (j - t.size) (by omega);have e3:t.size+(j - t.size)=j:=by omega
       rw [e3,hg2,hDi] at hd;have hej:es[j - t.size]? =some es[j - t.size]:=Array.getElem?_eq_getElem hsz
       have hopj:op={ g:=g',fn:=fr.fn,pos:=fr.place,act:=.ofEvent es[j - t.size] }:=by
        rw [Array.getElem?_append_right hge,ofEvents_eq,Array.getElem?_map,hej] at hop;exact(Option.some.inj hop).symm
       have:=hV.deaf hmn (j - t.size) hsz _ hej (by rw [hopj] at hya;rw [hya];simp);omega
      ·obtain⟨e,he,rfl⟩:=hop'
       have hloc:blk e.loc=some b:=by
        rcases hV.sh e he with⟨l,wr,rfl,hw'⟩ |rfl |rfl |⟨a,rfl⟩ |⟨a,rfl⟩ |⟨h0,_⟩
        ·obtain⟨b',hb',_⟩:=t4 hw';cases l with
         |cell a=>simp [MemAct.ofEvent,MemAct.touch?] at hy;subst hy;exact hyb
         |obj c=>cases wr <;> simp [MemAct.ofEvent,MemAct.touch?] at hy;subst hy;exact hyb
         |_=>cases hb'
        ·simp [MemAct.ofEvent,iL,MemAct.touch?] at hy
        ·simp [MemAct.ofEvent,iL,MemAct.touch?] at hy
        ·simp [MemAct.ofEvent,iL,MemAct.touch?] at hy
        ·simp [MemAct.ofEvent,iL,MemAct.touch?] at hy
        ·rw [hmn] at h0;cases h0
       have hbb:=hbw e he b hloc;rcases hne with hne |hne
       ·exact(h.ok.wm hcr).1 (hbb.symm.trans hne)
       ·exact(h.ok.wm hcr).2.1 (hbb.symm.trans hne)
 ·
  by_cases e0:i=0
  ·subst e0;rw [bi] at e⊢;obtain⟨j1,j2⟩:=hV.jn e;refine⟨j1,fun j op hop hc=>?_⟩;rcases getElem?_append_cases hop with⟨hlt,hop'⟩ |⟨_,hm⟩
   ·rcases j2 with j2 |⟨j2,j3,j4⟩
    ·exact((h.jn j2).2 j op hop' (hc.old hlt)).app _
    ·subst j2;rw [oe];rcases h.kn j op hop' (hc.old hlt) with h1 |⟨h1,h2,_⟩ |h1
     ·exact h1.app _
     ·have:=h.bk.gone j4 op.g h1 (h.tr.num op (mem_of_getElem? hop'));rw [this] at h2;cases h2
     ·exact h1.acq ⟨rfl,rfl⟩ (hDi.trans j3) h.tr.norel
   ·have:=knows_own hop;rwa [hu.num op hm] at this
  ·rw [aX (fun e'=>e0 e'.symm)] at e;have:=h.bk.gone (h.jn e).1 i (by omega) hin;rw [hs] at this;cases this
 ·
  by_cases e:j=i
  ·subst e;rw [bi] at hjq⊢;rw [hown,if_neg (by rw [hjq];simp)]
  ·rw [aX e] at hjq⊢;rw [hoth j e];exact h.deaf j hjn hjq
 ·
  rcases kU hi hx with⟨rfl,rfl⟩ |⟨hne,y,hy,rfl⟩
  ·rw [bi,bi,bi,bi,hown];refine⟨fun e=>?_,fun e=>.run (hw e)⟩;rw [if_pos e];exact hk' e
  ·have hs':=h.sts j y hy;rw [aX hne,aX hne,aX hne,aX hne,hoth j hne];refine⟨fun e=>?_,fun e=>?_⟩
   ·rw [woken_quitsD (hs'.1 e)];exact hs'.1 e
   ·refine(hs'.2 e).pas (hE.rely fun b hb=>h.shA b hb j) (fun hb=>?_) hcl (fun hm ho=>?_) (fun hc=>⟨q'.cs,hE.at_.ch hc⟩) fun e=>⟨hwk (.inr (.inr e)),rfl⟩
    ·rcases hb with⟨h1,h2⟩ |⟨h1,h2⟩
     ·rcases Nat.eq_zero_or_pos q'.T with h3 |h3
      ·exact .inl (.inl ⟨h1,h3⟩)
      ·exact .inr ⟨hwk (.inl (by omega)),rfl⟩
     ·rcases Nat.eq_zero_or_pos q'.sm with h3 |h3
      ·exact .inl (.inr ⟨h1,h3⟩)
      ·exact .inr ⟨hwk (.inr (.inl (by omega))),rfl⟩
    ·have hj0:j=0:=by simpa using hm
     exact hbk'.op (by rw [aX (fun e'=>hne (hj0.trans e')),←hj0];exact ho)
end
theorem vA.many{n z:Nat}:∀{u:List MemOp} {t:Trace},vA n z t→(∀op∈u,op.g < n∧op.act.touch? =none∧∀m,op.act≠.mark m)→vA n z (t++u.toArray)
 |[],t,h,_=>by simpa using h
 |o::u,t,h,hu=>by
  have e:t++(o::u).toArray=(t++ #[o])++u.toArray:=by apply Array.ext';simp
  rw [e]
  obtain⟨h1,h2,h3⟩:=hu o (by simp)
  exact vA.many (h.words h1 (fun op ho=>by simp at ho;rw [ho]) (fun op ho=>by simp at ho;rw [ho];exact h2) fun op ho a ea=>by simp at ho;subst ho;exact h3 _ ea) fun op ho=>hu op (by simp [ho])
theorem xe{g:Nat}:∀{u:List MemOp} {t:Trace},(∀op∈u,∀m,op.act≠.mark m)→Deaf (t++u.toArray) g=Deaf t g
 |[],t,_=>by simp
 |o::u,t,hu=>by
  have e:t++(o::u).toArray=(t++ #[o])++u.toArray:=by apply Array.ext';simp
  rw [e,xe fun op ho=>hu op (by simp [ho]),Deaf_push]
  have:=hu o (by simp)
  unfold deafStep
  split
  ·
   rename_i e1;exact absurd e1 (this _)
  ·
   rename_i e1;exact absurd e1 (this _)
  ·
   rfl
section
variable {P:Program}{p:Gp}{T:Tq}{n:Nat}{sg sg':Nat→Ph}{rk rk':Nat→Rk}{k:Nat→Nat}{A Z:Nat→Nat→Prop}{q q':c9}{gs gs':Array Goroutine}{w w':World}{t:Trace}
theorem Bk.phn(h:Bk p n sg q){c:Nat}(hs:∀i,sg' i={ sg i with phi:=(sg' i).phi,nw:=(sg' i).nw })(hp:al n sg' Ph.phi≤al n sg Ph.phi)(hn:q.cl=false→al n sg' Ph.nw=al n sg Ph.nw)(h0:(sg' 0).nw=0)(hqt:∀i,(sg i).q=true→sg' i=sg i):Bk p n sg' { q with cs:=c }:=by
 have e:∀f:Ph→Nat,(∀i,f (sg' i)=f (sg i))→al n sg' f=al n sg f:=fun f hf=>by
  unfold al;exact congrArg (fun z=>aF z n) (funext hf)
 have e1:=e Ph.ac fun i=>by rw [hs i]
 have e2:=e Ph.w1 fun i=>by rw [hs i]
 have e3:=e Ph.w2 fun i=>by rw [hs i]
 have e4:=e Ph.hd fun i=>by rw [hs i]
 have e5:=e Ph.aw fun i=>by rw [hs i]
 have e6:=e Ph.rn fun i=>by rw [hs i]
 have e7:=e Ph.tk fun i=>by rw [hs i]
 have e8:=e Ph.qu fun i=>by rw [hs i]
 have e9:=e Ph.rh fun i=>by rw [hs i]
 have e10:=e Ph.ty fun i=>by rw [hs i]
 have e11:=e Ph.dt fun i=>by rw [hs i]
 have e12:=e Ph.lv fun i=>by rw [hs i]
 have z:=hs 0;have z1:(sg' 0).pd=(sg 0).pd:=by rw [z]
 have z2:(sg' 0).rg=(sg 0).rg:=by rw [z]
 have z3:(sg' 0).op=(sg 0).op:=by rw [z]
 have z4:(sg' 0).sp=(sg 0).sp:=by rw [z]
 have z5:(sg' 0).cb=(sg 0).cb:=by rw [z]
 have z6:(sg' 0).al=(sg 0).al:=by rw [z]
 have z7:(sg' 0).cd=(sg 0).cd:=by rw [z]
 refine⟨by rw [e1,z1];exact h.c,by rw [z2,e2,e3];exact h.un,by rw [z2,z1,e2,e3];exact h.re,by rw [z1];exact h.pd,by rw [z2,z7];exact h.rgc,by rw [z3];exact h.op,fun e'=>by rw [z4,hn e'];exact h.nw e',h.le,by rw [e4];exact h.hd,by rw [e5,e6,e7,e8,e9,e10];exact h.s0,by rw [e5,e6,e7,e8,e9];exact h.s1,by rw [e11];exact h.h,?_,fun i ow φ hi he=>h.se i ow φ hi ?_,fun i hi=>?_,by rw [e12,z4];exact h.lv,fun i hi=>?_,h.n0,by rw [z5];exact h.cb,fun ha i hi hin=>?_⟩
 ·have:=h.f;show al n sg' Ph.phi+2 * q.T≤q.f;omega
 ·rw [hs i] at he;exact he
 ·rw [hs i];exact h.nb i hi
 ·have ho:=h.ok i hi;by_cases hq:(sg i).q=true
  ·rw [hqt i hq];exact ho
  ·have hf:(sg i).q=false:=by simpa using hq
   have hqi:(sg' i).q=(sg i).q:=by rw [hs i]
   refine⟨by rw [hs i];exact ho.one,by rw [hs i];exact ho.rg,by rw [hs i];exact ho.lv,fun x=>absurd (hqi▸x) hq,by rw [hs i];exact ho.dt,fun x=>?_,by rw [hs i];exact ho.work⟩;have hm:=ho.main x;subst x;exact⟨by rw [hs 0];exact hm.1,by rw [hs 0];exact hm.2.1,by rw [hs 0];exact hm.2.2.1,h0,by rw [hs 0];exact hm.2.2.2.2.1,by rw [hs 0];exact hm.2.2.2.2.2⟩
 ·rw [z6] at ha;rw [hs i];exact h.gone ha i hi hin
theorem CW.comm(h:CW P p T n sg rk k A Z q gs w t){u:List MemOp}(hu:∀op∈u,op.g < n∧op.act.touch? =none∧∀m,op.act≠.mark m)(hsz:gs'.size=n)(hs:∀i,sg' i={ sg i with phi:=(sg' i).phi,nw:=(sg' i).nw })(hw:w'.heap.size=w.heap.size)(hat:p.At w' q')(hbk:Bk p n sg' q')(hh:q'.h=q.h)
 (hst:∀i g,gs'[i]? =some g→Q8 P p T (i == 0) ⟨w',A i,Z i⟩ (rk' i) (k i) (Deaf t i) (sg' i) q' g)
 (hpp:∀g,gs'[0]? =some g→(∃fr cs x z,g=parked (Gr fr cs) #[scase p.bc x z] .send)→∀i g',0 < i→gs'[i]? =some g'→¬∃fr cs z,g'=parked (Gr fr cs) #[rcase p.bc z] (.recv true)):
 CW P p T n sg' rk' k A Z q' gs' w' (t++u.toArray):=by
 have ht:∀op∈u.toArray,op.act.touch? =none:=fun op ho=>(hu op (by simpa using ho)).2.1
 have hD:∀g,Deaf (t++u.toArray) g=Deaf t g:=fun g=>xe fun op ho=>(hu op ho).2.2
 have hq:∀i,(sg' i).q=(sg i).q:=fun i=>by rw [hs i]
 have hnc:∀{j:Nat} {op:MemOp},op∈u.toArray→(t++u.toArray)[j]? =some op→¬Nh p (t++u.toArray) j op:=fun {j op} hm hop hc=>by
  rcases hc with⟨x,hx,_⟩ |⟨x,b,hx,_⟩
  ·obtain⟨op',hop2,hxa⟩:=touch_of hx;rw [hop] at hop2;cases hop2;rw [ht op hm] at hxa;cases hxa
  ·rw [ht op hm] at hx;cases hx
 refine⟨hsz,by rw [hw];exact h.tr.many hu,fun i b hb=>by rw [hw];exact h.domA i b hb,fun i b hb=>by rw [hw];exact h.domZ i b hb,fun i j b h1 h2 h3 hb=>h.cover i j b h1 h2 h3 (by rw [←hw];exact hb),fun i1 j x b h1 h2 hx hb ha hz=>(h.knows i1 j x b h1 ((hq i1).symm.trans h2) (cP ht hx).2 hb ha hz).app _,fun i1 j x b h1 h2 hx hb hs'=>(h.shk i1 j x b h1 ((hq i1).symm.trans h2) (cP ht hx).2 hb hs').imp (·.app _) id,
  fun j x b hx hb hs' hk=>(h.shs j x b (cP ht hx).2 hb hs' hk).app _,fun e i1 j x h1 h2 hx hb=>(h.lkf (hh.symm.trans e) i1 j x h1 ((hq i1).symm.trans h2) (cP ht hx).2 hb).imp (·.app _) (·.app _),fun j op hop hc=>?_,fun e=>?_,fun i hi hqi=>?_,fun i g hg=>by rw [hD];exact hst i g hg,hat,hbk,h.shA,by rw [hw];exact h.bkl,h.bkZ,fun i hi=>?_,hpp,h.ok⟩
 ·
  rcases getElem?_append_cases hop with⟨hlt,hop'⟩ |⟨_,hm⟩
  ·rw [hs op.g];exact(h.kn j op hop' (hc.old hlt)).imp (·.app _) (.imp id (·.app _))
  ·exact absurd hc (hnc hm hop)
 ·
  rw [hs 0] at e⊢;refine⟨(h.jn e).1,fun j op hop hc=>?_⟩;rcases getElem?_append_cases hop with⟨hlt,hop'⟩ |⟨_,hm⟩
  ·exact((h.jn e).2 j op hop' (hc.old hlt)).app _
  ·exact absurd hc (hnc hm hop)
 ·
  rw [hD];rw [hs i] at hqi⊢;exact h.deaf i hi hqi
 ·
  rw [hs i];exact h.bkA i hi
theorem CW.stay(h:CW P p T n sg rk k A Z q gs w t){i:Nat}{g:Goroutine}(hg:gs[i]? =some g)(hr:bh ⟨w,A i,Z i⟩ ⟨w',A i,Z i⟩)(hqs:q'={ q with cs:=q'.cs })(hch:p.cr=true→∃n,w'.heap[p.bc]? =some (.chan 0 #[] q'.cl n n false)):Q8 P p T (i == 0) ⟨w',A i,Z i⟩ (rk i) (k i) (Deaf t i) (sg i) q' g:=by
 have hs:=h.sts i g hg;refine⟨hs.1,fun e=>?_⟩;have:=(hs.2 e).pas (q':=q') (g:=Gr default []) (g':={ Gr default [] with status:=.blocked }) (w':=w') hr (fun hb=>.inl (by rw [hqs];exact hb)) (fun e=>by rw [hqs];exact e) (fun hm ho=>by rw [hqs];exact h.bk.op (by rw [show(0:Nat)=i from(by simpa using hm:i=0).symm];exact ho)) hch fun e=>absurd (by rw [hqs]) e;rwa [show Conc.woken P (Gr default []) { Gr default [] with status:=.blocked } w' g=g by unfold Conc.woken;rw [if_neg (by simp)]] at this
theorem CW.sender(h:CW P p T n sg rk k A Z q gs w t){i j kk:Nat}(hm:(j,kk)∈partners (gs.setIfInBounds i ph) p.bc true):kk=0∧j≠i∧j=0∧∃fr cs x z,gs[j]? =some (parked (Gr fr cs) #[scase p.bc x z] .send)∧Jk P p (yc P p T (rk 0)) true (sg 0) ⟨w,A 0,Z 0⟩ fr cs x z:=by
 rw [partners_eq] at hm;obtain⟨⟨g,j'⟩,h1,h2⟩:=List.mem_flatMap.1 hm;obtain⟨kk',h3,h4⟩:=List.mem_map.1 h2;cases h4;have hg:=Array.mem_zipIdx_iff_getElem?.1 (Array.mem_toList_iff.1 h1);have hg:(gs.setIfInBounds i ph)[j]? =some g:=by simpa using hg
 rcases getElem?_stand gs i j g hg with⟨_,rfl⟩ |⟨hji,hg⟩
 ·simp [offersAt_ph] at h3
 ·have hs:=h.sts j g hg;cases hq:(sg j).q with
  |true=>
   rw [offersAt_of_not_blocked (by rcases(hs.1 hq).status with h |h <;> rw [h] <;> simp)] at h3;cases h3
  |false=>
   cases hs.2 hq with
   |run h=>rw [offersAt_of_not_blocked (by simp)] at h3;cases h3
   |blk hb h=>cases h3
   |rcv hc hz=>rw [offersAt_parked_recv'] at h3;cases h3
   |rcd hc hz=>rw [offersAt_of_not_blocked (by simp)] at h3;cases h3
   | @snd fr cs x z hz=>
    have hj0:j=0:=by simpa using hz.2.1
    subst hj0;rw [offersAt_parked_send,if_pos rfl] at h3;exact⟨by simpa using h3,hji,rfl,fr,cs,x,z,hg,hz⟩
theorem CW.receiver(h:CW P p T n sg rk k A Z q gs w t){i j kk:Nat}(hm:(j,kk)∈partners (gs.setIfInBounds i ph) p.bc false):kk=0∧j≠i∧0 < j∧∃fr cs z,gs[j]? =some (parked (Gr fr cs) #[rcase p.bc z] (.recv true))∧(sg j).q=false∧Fh P p (yc P p T (rk j)) false (sg j) ⟨w,A j,Z j⟩ fr cs z:=by
 rw [partners_eq] at hm;obtain⟨⟨g,j'⟩,h1,h2⟩:=List.mem_flatMap.1 hm;obtain⟨kk',h3,h4⟩:=List.mem_map.1 h2;cases h4;have hg:=Array.mem_zipIdx_iff_getElem?.1 (Array.mem_toList_iff.1 h1);have hg:(gs.setIfInBounds i ph)[j]? =some g:=by simpa using hg
 rcases getElem?_stand gs i j g hg with⟨_,rfl⟩ |⟨hji,hg⟩
 ·simp [offersAt_ph] at h3
 ·have hs:=h.sts j g hg;cases hq:(sg j).q with
  |true=>
   rw [offersAt_of_not_blocked (by rcases(hs.1 hq).status with h |h <;> rw [h] <;> simp)] at h3;cases h3
  |false=>
   cases hs.2 hq with
   |run h=>rw [offersAt_of_not_blocked (by simp)] at h3;cases h3
   |blk hb h=>cases h3
   | @rcv fr cs z hc hz=>
    have hmn:=hz.2.1;rw [offersAt_parked_recv,if_pos rfl] at h3;rw [hmn] at hz
    exact⟨by simpa using h3,hji,by have:j≠0:=by simpa using hmn
                                   omega,fr,cs,z,hg,rfl,hz⟩
   |rcd hc hz=>rw [offersAt_of_not_blocked (by simp)] at h3;cases h3
   |snd hz=>rw [offersAt_parked_send'] at h3;cases h3
end
end K
