import Derived.Maps.Keyed
import Derived.Test.YtflilincnacbpaaGreatVTF1
import Derived.Conc.CrowdTrace
import Derived.Conc.CrowdSel
import Derived.Conc.LeavingOf
import Derived.Conc.QuitsD
import Derived.Conc.CrowdComm
import Derived.Conc.JoinWorld
open Nat
open List hiding mem_of_getElem?
open Array hiding mem_of_getElem? mk
set_option linter.unusedSimpArgs false
set_option linter.unusedVariables false
namespace Go.Proofs.YtflilincnacbpaaGreat
namespace K
open Go
def vB{Y:Type}(P:Program)(k:TypeId)(V:Y->Value)(R:Value->Y->Prop)(o:Obj):Prop:=
 ∃es cl,o= .map es cl/\∀e∈es.toList,(∃lt,keyOf P k e.key=some lt)/\kU e.key=true/\∃n,e.val=V n/\R e.key n
theorem vB.nil{Y:Type}{P:Program}{k:TypeId}{V:Y->Value}{R:Value->Y->Prop}:vB P k V R (.map #[] 0):=⟨#[],0,rfl,by simp⟩
theorem vB.calm{Y:Type}{P:Program}{k:TypeId}{V:Y->Value}{R:Value->Y->Prop}{o:Obj}(h:vB P k V R o):calm o=true:=by
 obtain⟨es,cl,rfl,h⟩:=h;show(es.toList.all λe=>kU e.key)=true;simp_all
section
variable {Y:Type}{P:Program}{M:Md P}{o:Oper}{x y v:Operand}{T T' k e:TypeId}{V:Y->Value}{R:Value->Y->Prop}{kv:Value}
theorem wn{z:Nat}{ob:Obj}(hT:P.underlying T=some (.map k e))(z0:Y)(hz:∀w,(zeroValue e).run P w= .ok (V z0) w)(hk:Maps.Keyed P k)(hkv:∃lt,keyOf P k kv=some lt)
 (hfun:∀n n',R kv n->R kv n'->n=n') (hob:vB P k V R ob):
 ∃n b,(b=true->R kv n)/\(b=false->n=z0)/\∀w,w.heap[z]? =some ob->(Instr.lookup T (.map (some z)) kv true).run P w= .ok (.tuple #[V n,.bool b]) w:=by
 obtain⟨es,cl,rfl,h2⟩:=hob
 obtain⟨lt,hlt⟩:=hkv
 by_cases he:∃en∈es.toList,en.key=kv
 .
  obtain⟨e0,he0,hk0⟩:=he;obtain⟨_,_,n0,_,hR0⟩:=h2 e0 he0;rw [hk0] at hR0;refine⟨n0,true,λ_=>hR0,λh=>Bool.noConfusion h,λw h1=>?_⟩;have hc:=hk.check w es.isEmpty hlt;rcases hk.find w hlt es.toList (λe he=>(h2 e he).1) with⟨h3,h4⟩ |⟨j,en,h3,h4,h5⟩
  .simp_all
  .obtain⟨_,_,n,hn,hR⟩:=h2 en (List.mem_of_getElem? h4);rw [h5] at hR;obtain rfl:=hfun _ _ hR hR0;simp only [Instr.lookup,Sem.run_bind,run_underlying hT,Result.andThen_ok,f5 h1,Sem.run_pure,hc,h3,hn,if_true]
 .
  refine⟨z0,false,λh=>Bool.noConfusion h,λ_=>rfl,λw h1=>?_⟩;have hc:=hk.check w es.isEmpty hlt;rcases hk.find w hlt es.toList (λe he=>(h2 e he).1) with⟨h3,h4⟩ |⟨j,en,h3,h4,h5⟩
  .simp only [Instr.lookup,Sem.run_bind,run_underlying hT,Result.andThen_ok,f5 h1,Sem.run_pure,hc,h3,hz,if_true]
  grind
theorem Fo{z:Nat}{rk:A}{ob:Obj}{n:Y}{b:Bool}(r:Y->A)(hV:∀S w,(r n).holds S w (V n))(hnk:kU kv=true)(hcm:calm ob=true)(ho:o.op= .lookup T x y true)(hy:∀S w u,rk.holds S w u->u=kv)
 (hr:∀w,w.heap[z]? =some ob->(Instr.lookup T (.map (some z)) kv true).run P w= .ok (.tuple #[V n,.bool b]) w):
 bB M o [(x,.eq (.map (some z))),(y,rk)] [.raw z ob] (λ_:Unit=>(.tup (.pair (r n) (.pair (.eq (.bool b)) .any)),[.raw z ob])):=by
 refine vP.T ⟨by grind [nd],λS w a next hd hN hO kk=>?_⟩ (λS w a hN _=>D2 ho (by have e:a.eval y=kv:=hy _ _ _ hN.2.1;simp_all)) (λd hd=>by rw [List.mem_singleton.1 hd];exact hcm)
 have e1:a.eval x= .map (some z):=hN.1
 have e2:a.eval y=kv:=hy S w _ hN.2.1
 have h1:w.heap[z]? =some ob:=hO.holds _ (List.mem_singleton.2 rfl)
 have hrun:(execOp a.eval o).run P w= .ok (.value (.tuple #[V n,.bool b])) w:=by
  simp_all [execOp,Sem.run_bind,Result.andThen_ok,Sem.run_pure]
 rw [hrun]
 exact kk () S w _ (j6.refl hd) ⟨[_,_],rfl,_,_,rfl,hV _ _,_,_,rfl,rfl,rfl⟩ hO (λb hb=>.inl hb)
theorem ye{z:Nat}{rk:A}{n:Y}{rv:A}(hV:∀S w u,rv.holds S w u->u=V n)(hnk:kU kv=true)(ho:o.op= .mapUpdate T x y v)(hT:P.underlying T=some (.map k e))(hk:Maps.Keyed P k)(hy:∀S w u,rk.holds S w u->u=kv)(hkv:∃lt,keyOf P k kv=some lt)(hR:R kv n):
 bB M o [(x,.eq (.map (some z))),(y,rk),(v,rv)] [.inv z (vB P k V R)] (λ_:Unit=>(.eq undef,[.inv z (vB P k V R)])):=by
 refine vP.T ⟨by grind [nd],λS w a next hd hN hO kk=>?_⟩ (λS w a hN _=>DX ho (by have e:a.eval y=kv:=hy _ _ _ hN.2.1;simp_all)) (λd hd=>by rw [List.mem_singleton.1 hd];exact λ_ h=>h.calm)
 have e1:a.eval x= .map (some z):=hN.1
 have e2:a.eval y=kv:=hy S w _ hN.2.1
 have e3:a.eval v=V n:=hV _ _ _ hN.2.2.1
 obtain⟨ob,h1,es,cl,rfl,h2⟩:=hO.holds _ (List.mem_singleton.2 rfl)
 have hb:=hO.own z ⟨_,List.mem_singleton.2 rfl,rfl⟩
 obtain⟨lt,hlt⟩:=hkv
 have hc:=hk.check w false hlt
 have hgo:∀ob',(Instr.mapUpdate T (.map (some z)) kv (V n)).run P w= .ok () (w.putObj z ob')->vB P k V R ob'->Tj o a next ((execOp a.eval o).run P w):=λob' hr hM=>by
  have hrun:(execOp a.eval o).run P w= .ok .skip (w.putObj z ob'):=by
   simp_all [execOp,Sem.run_bind,Result.andThen_ok,Sem.run_pure]
  rw [hrun];refine kk () S _ _ (om hd ⟨_,List.mem_singleton.2 rfl,rfl⟩ ob') rfl (gk ⟨ob',ya hb.2,hM⟩ λb h=>?_) (λb hb=>.inl hb);grind [D.foot,Option.some.injEq,rj]
 rcases hk.find w hlt es.toList (λe he=>(h2 e he).1) with⟨h3,h4⟩ |⟨j,en,h3,h4,h5⟩
 .
  refine hgo (.map (es.push { key:=kv,val:=V n,born:=cl }) (cl+1)) ?_ ⟨_,_,rfl,λe he=>?_⟩
  .simp only [Instr.mapUpdate,Sem.run_bind,run_underlying hT,Result.andThen_ok,f5 h1,Sem.run_pure,hc,h3,lm _ h1]
  grind
 .
  have hst:=hk.stays w hlt;have hj:es[j]? =some en:=by simp_all
  refine hgo (.map (es.modify j λe=>{ e with key:=kv,val:=V n }) cl) ?_ ⟨_,_,rfl,λe he=>?_⟩
  .simp only [Instr.mapUpdate,Sem.run_bind,run_underlying hT,Result.andThen_ok,f5 h1,Sem.run_pure,hc,h3,hj,Option.map_some,Option.getD_some,h5,hst,lm _ h1]
  .obtain⟨i,hi⟩:=List.mem_iff_getElem?.1 he;grind
end
end K
end Go.Proofs.YtflilincnacbpaaGreat
set_option linter.unusedVariables false
set_option maxRecDepth 4000
set_option maxHeartbeats 1000000
namespace Go.Proofs.YtflilincnacbpaaGreat
open K Go Go.Proofs
abbrev tq:List (List Int):=[[(0:Int),(0:Int),(0:Int),(0:Int),(0:Int)],[(0:Int),(0:Int),(0:Int),(0:Int),(0:Int)],[(0:Int),(0:Int),(0:Int),(0:Int),(0:Int)],[(0:Int),(0:Int),(0:Int),(0:Int),(0:Int)],[(0:Int),(0:Int),(0:Int),(0:Int),(0:Int)],[(0:Int),(0:Int),(0:Int),(0:Int),(0:Int)],[(0:Int),(0:Int),(0:Int),(0:Int),(0:Int)]]
def bS(k:Nat)(a0:ae):Nat->((List (List Int))×Int)->Option (List (List Int))
 |0,_=>none
 |n+1,y7=>
  if y7.2 < (a0.2.2.2.2.1.length:Int) then((ck (y7.2+(1:Int))).bind λx9=>
  (cM (0≤y7.2/\y7.2 < 7)).bind λ_=>
  (aG y7.1 y7.2).bind λx11=>
  (gX k a0 x11 y7.2).bind λr12=>
  (cM (0≤x9/\x9 < 7)).bind λ_=>
  (ck (y7.2+(1:Int))).bind λx14=>
  bS k a0 n (List.set y7.1 (Int.toNat x9) r12,x14)) else(some y7.1)
def jt(k:Nat)(a0:ae)(a1:Int):Option (List (List Int)):=
 (eT k a0 a1).bind λr3=>
 (cM (0≤(0:Int)/\(0:Int) < 7)).bind λ_=>
 ((bS k a0 k (List.set tq (Int.toNat (0:Int)) r3,(0:Int))):Option ((List (List Int)))).bind λx5=>
 some x5
theorem FX:ai Tryz.prog 43:=ai.of Tryz.func43 (by kernel_rfl) (by kernel_rfl)
theorem FW:ai Tryz.prog 44:=ai.of Tryz.func44 (by kernel_rfl) (by kernel_rfl)
noncomputable def Jm:Nat->Code
 |0=>match Tryz.f20.body with |some (.seq r _)=>r |_=>.skip
 |1=>match Tryz.f20.body with |some (.seq _ (.seq r _))=>r |_=>.skip
 |2=>match Tryz.f20.body with |some (.seq _ (.seq _ (.seq r _)))=>r |_=>.skip
 |3=>match Tryz.f20.body with |some (.seq _ (.seq _ (.seq _ (.seq r _))))=>r |_=>.skip
 |4=>match Tryz.f20.body with |some (.seq _ (.seq _ (.seq _ (.seq _ (.seq r _)))))=>r |_=>.skip
 |5=>match Tryz.f20.body with |some (.seq _ (.seq _ (.seq _ (.seq _ (.seq _ (.seq r _))))))=>r |_=>.skip
 |6=>match Tryz.f20.body with |some (.seq _ (.seq _ (.seq _ (.seq _ (.seq _ (.seq _ (.seq r _)))))))=>r |_=>.skip
 |7=>match Tryz.f20.body with |some (.seq _ (.seq _ (.seq _ (.seq _ (.seq _ (.seq _ (.seq _ (.seq r _))))))))=>r |_=>.skip
 |8=>match Tryz.f20.body with |some (.seq _ (.seq _ (.seq _ (.seq _ (.seq _ (.seq _ (.seq _ (.seq _ (.seq r _)))))))))=>r |_=>.skip
 |9=>match Tryz.f20.body with |some (.seq _ (.seq _ (.seq _ (.seq _ (.seq _ (.seq _ (.seq _ (.seq _ (.seq _ (.seq r _))))))))))=>r |_=>.skip
 |10=>match Tryz.f20.body with |some (.seq _ (.seq _ (.seq _ (.seq _ (.seq _ (.seq _ (.seq _ (.seq _ (.seq _ (.seq _ (r)))))))))))=>r |_=>.skip
 |_=>.skip
section
variable {M:Md Tryz.prog}{bm:Nat}{c0 c1 c2 c3 c4 c5:Value}{S:FS}{w0:VW}{X:Nat->Prop}{df:List Deferred}{b1 b2:Nat}{k:Nat}{a0:ae}{a1:Int}{y1:List (List Int)}
@[reducible] noncomputable def tu (bm:Nat) (c0 c1 c2 c3 c4 c5:Value) (a0:ae) (a1:Int) (b1 b2:Nat):Ga:=[(0,.rep (.mo (.pointer (some ⟨bm,0,none⟩)) [c0,c1,c2,c3,c4,c5] ap) a0),(1,.eq (.int .u8 a1)),(4,.eq (.pointer (some ⟨b1,0,none⟩))),(5,.eq (.pointer (some ⟨b2,0,none⟩)))]
@[reducible] noncomputable def Bn (b1 b2:Nat) (y:List (List Int)):List D:=[.obj b1 58 (.rep (.arr 7 (.arr 5 (.int .i64))) tq),.obj b2 58 (.rep (.arr 7 (.arr 5 (.int .i64))) y)]
@[reducible] noncomputable def nI (M:Md Tryz.prog) (S:FS) (w0:VW) (X:Nat->Prop) (df:List Deferred):Cx:=⟨Tryz.prog,64,S,w0,X,none,df,M⟩
theorem Jk(hK:Kn M bm 0 [c0,c1,c2,c3,c4,c5]){y r:List (List Int)}(h:bS k a0 k (y,(0:Int))=some r):
 JC (nI M S w0 X df) (Jm 6) (bQ (λa w=>St (nI M S w0 X df) (tu bm c0 c1 c2 c3 c4 c5 a0 a1 b1 b2) (Bn b1 b2 r) a w) (λ_ _ _=>False)) (tu bm c0 c1 c2 c3 c4 c5 a0 a1 b1 b2) (Bn b1 b2 y):=by
 replace h:(((bS k a0 k (y,(0:Int))):Option (List (List Int))).bind some).bind some=some r:=by rw [h];rfl
 refine am ?_
 refine ab ?_
 refine dh rfl rfl ?_
 refine bh rfl (lr rfl) ⟨rfl,trivial⟩ ?_
 refine bh rfl (gV rfl jx) ⟨rfl,trivial⟩ ?_
 refine bh rfl (iI 1 false rfl cS rfl rfl) ⟨rfl,trivial⟩ ?_
 refine bh rfl (jr (t:=(.slice (.slice (.slice (.int .i64))))) rfl gG (hK.sub 4 1 rfl (le_of_ble_eq_true rfl)) rfl rfl) ⟨rfl,trivial⟩ ?_
 refine bh rfl (nP rfl rfl Tryz.underlying25) ⟨rfl,trivial⟩ ?_
 refine fy rfl ?_
 refine aD ?_
 refine ao ?_
 show JC _ _ _ _ _
 refine JY (Z:=Unit) (α:=(List (List Int))) (λz6 x5=>[(0,.rep (.mo (.pointer (some ⟨bm,0,none⟩)) [c0,c1,c2,c3,c4,c5] ap) a0),(1,.eq (.int .u8 a1)),(4,.eq (.pointer (some ⟨b1,0,none⟩))),(5,.eq (.pointer (some ⟨b2,0,none⟩)))]) (λz6 x5=>[.obj b1 58 (.rep (.arr 7 (.arr 5 (.int .i64))) tq),.obj b2 58 (.rep (.arr 7 (.arr 5 (.int .i64))) x5)]) h (λK h=>?_) (λz6 x5 h=>?_)
 .
  refine ak ?_;refine aH (Z:=Unit) (α:=(List (List Int))×Int) (λz8 y7=>[(0,.rep (.mo (.pointer (some ⟨bm,0,none⟩)) [c0,c1,c2,c3,c4,c5] ap) a0),(1,.eq (.int .u8 a1)),(4,.eq (.pointer (some ⟨b1,0,none⟩))),(5,.eq (.pointer (some ⟨b2,0,none⟩))),(36,.eq (.int .i64 (a0.2.2.2.2.1.length:Int))),(37,.eq (.int .i64 y7.2))]) (λz8 y7=>[.obj b1 58 (.rep (.arr 7 (.arr 5 (.int .i64))) tq),.obj b2 58 (.rep (.arr 7 (.arr 5 (.int .i64))) y7.1)]) (bS k a0) k () (y,(0:Int)) (λ_=>rfl) h (SE.fin [0,1] ⟨rfl,rfl,rfl,rfl,rfl,rfl,trivial⟩ rfl) (λn z8 y7 h=>?_);unfold bS at h;refine am ?_;refine ab ?_;refine bh rfl (bG rfl) ⟨rfl,rfl,trivial⟩ ?_;refine aD ?_;refine ao ?_;show JC _ _ _ _ _;refine am ?_;refine ie rfl (λhb=>?_) (λhb=>?_)
  .replace h:=fo (vI hb) h;refine bj ?_;refine ao ?_;show JC _ _ _ _ _;refine am ?_;refine ak ?_;refine am ?_;refine ab ?_;refine dh rfl rfl ?_;refine nU rfl rfl ?_;refine aD ?_;refine ao ?_;show JC _ _ _ _ _;refine ab ?_;refine dh rfl rfl ?_;obtain⟨x9,ex9,h⟩:=aa h;refine bh rfl (bA rfl ex9) ⟨rfl,rfl,trivial⟩ ?_;refine dh rfl rfl ?_;refine dh rfl rfl ?_;obtain⟨u10,eu10,h⟩:=aa h;refine bh rfl (dY rfl Tryz.underlying58 jm (au eu10).1 (au eu10).2) ⟨rfl,rfl,trivial⟩ ?_;obtain⟨x11,ex11,h⟩:=aa h;refine dN 1 rfl ?_;refine fu rfl rfl rfl (nv (t:=(.arr 5 (.int .i64))) (off:=0) (i:=y7.2) (N:=7) rfl jm (tP) rfl rfl rfl rfl ex11) ⟨rfl,trivial⟩ ?_;refine dh rfl rfl ?_;obtain⟨r12,er12,h⟩:=aa h;have cr12:=rE hK k a0 x11 y7.2 r12 er12;refine bh rfl (aZ [.tmp 42,.tmp 45,.tmp 46] rfl rfl FW rfl cr12) ⟨rfl,rfl,rfl,trivial⟩ ?_;obtain⟨u13,eu13,h⟩:=aa h;refine bh rfl (dY rfl Tryz.underlying58 jm (au eu13).1 (au eu13).2) ⟨rfl,rfl,trivial⟩ ?_;refine aP rfl rfl (gU (t:=(.arr 5 (.int .i64))) (off:=0) (i:=x9) (N:=7) rfl jm .rep rfl rfl rfl rfl (au eu13).1 (au eu13).2 rfl) ⟨rfl,rfl,trivial⟩ ?_;refine aD ?_;refine aR ?_;refine ao ?_;show JC _ _ _ _ _;refine ab ?_;obtain⟨x14,ex14,h⟩:=aa h;refine bh rfl (bA rfl ex14) ⟨rfl,rfl,trivial⟩ ?_;refine dh rfl rfl ?_;refine aD ?_;refine ao ?_;exact mJ ((),(List.set y7.1 (Int.toNat x9) r12,x14)) h (SE.fin [1,0] ⟨rfl,rfl,rfl,rfl,rfl,rfl,trivial⟩ rfl)
  .replace h:=di (vJ hb) h;refine eO ?_;refine bi ?_;refine bi ?_;refine cT ?_;refine ao ?_;exact mJ ((),y7.1) h (SE.fin [0,1] ⟨rfl,rfl,rfl,rfl,trivial⟩ rfl)
 .
  obtain rfl:x5=r:=Option.some.inj h;exact λ_ _ h=>h
theorem FU(hK:Kn M bm 0 [c0,c1,c2,c3,c4,c5]){r:List Int}(h:eT k a0 a1=some r):
 JC (nI M S w0 X df) (Jm 5) (bQ (λa w=>St (nI M S w0 X df) (tu bm c0 c1 c2 c3 c4 c5 a0 a1 b1 b2) (Bn b1 b2 (List.set tq 0 r)) a w) (λ_ _ _=>False)) (tu bm c0 c1 c2 c3 c4 c5 a0 a1 b1 b2) (Bn b1 b2 tq):=by
 refine ab ?_
 refine dh rfl rfl ?_
 refine dh rfl rfl ?_
 have cr3:=qs hK k a0 a1 r h
 refine bh rfl (aZ [.tmp 27,.tmp 28] rfl rfl FX rfl cr3) ⟨rfl,rfl,trivial⟩ ?_
 refine dN 1 rfl ?_
 refine bh rfl (dY rfl Tryz.underlying58 jm (by decide) (by decide)) ⟨rfl,rfl,trivial⟩ ?_
 refine aP rfl rfl (gU (t:=(.arr 5 (.int .i64))) (off:=0) (i:=(0:Int)) (N:=7) rfl jm .rep rfl rfl rfl rfl (by decide) (by decide) rfl) ⟨rfl,rfl,trivial⟩ ?_
 refine aD ?_
 refine ao ?_
 exact jj (junk:=[]) (by repeat (first |exact trivial |refine⟨rfl,?_⟩)) (List.Perm.swap ..)
end
end Go.Proofs.YtflilincnacbpaaGreat
namespace Go.Proofs.YtflilincnacbpaaGreat
namespace K
open Go Go.Conc
def blk:Loc->Option Nat
 | .cell a=>some a.block
 | .obj b=>some b
 |_=>none
theorem rQ{v:VW}{n b:Nat}{e:Event}(h:lL v n e)(hb:blk e.loc=some b):b < n/\¬v.A b/\(e.write=true->¬v.Z b):=by
 unfold lL at h;unfold blk at hb;split at h
 .simp_all
 .simp_all
 .simp_all
 simp_all
theorem yI{l:Loc}(h:l.isMemory=true):∃b,blk l=some b:=by
 cases l <;> first |exact⟨_,rfl⟩ |cases h
theorem vi{v:VW}{n:Nat}{e:Event}(h:lL v n e):e.loc≠.mark .disable/\e.loc≠.mark .enable:=by
 unfold lL at h;constructor <;> (intro he;rw [he] at h;cases h)
structure vO(n z:Nat)(t:Trace):Prop where
 num:∀op∈t,op.g < n
 race:∀said,¬Race said t
 inb:∀j x b,touchAt t j=some x->blk x.loc=some b->b < z
 norel:∀op∈t,∀a,op.act≠.mark (.release a)
theorem uP{v:VW}{n i:Nat}{fn:FuncId}{pos:String}{es:Array Event}(h:∀e∈es,lL v n e):∀op∈MemOp.ofEvents i fn pos es,op.g=i/\(∀m,op.act= .mark m->QE m=true)/\(∀x,op.act.touch? =some x->∃e∈es,x=⟨e.loc,e.write,.plain⟩):=by
 intro op hop;unfold MemOp.ofEvents at hop;split at hop
 .simp at hop
 .obtain⟨e,he,rfl⟩:=Array.mem_map.1 hop;refine⟨rfl,?_,?_⟩
  .intro m hm;have h0:=h e he;obtain⟨l,wr,sy⟩:=e;unfold lL at h0;cases l with
   |cell a=>grind [MemAct.ofEvent]
   |obj b=>
    simp_all [MemAct.ofEvent]
   |mark m'=>
    simp_all [MemAct.ofEvent,MemAct.mark.injEq]
   |_=>simp_all
  .intro x hx;have h0:=h e he;refine⟨e,he,?_⟩;obtain⟨l,wr,sy⟩:=e;unfold lL at h0;cases l with
   |cell a=>
    obtain⟨rfl,_⟩:=h0;simpa [MemAct.ofEvent,MemAct.touch?,eq_comm] using hx
   |obj b=>
    obtain⟨rfl,_⟩:=h0;cases wr <;> simpa [MemAct.ofEvent,MemAct.touch?,eq_comm] using hx
   |mark m'=>
    have h0:QE m'=true:=h0;cases m' <;> first |(cases h0;done) |grind [MemAct.ofEvent,MemAct.touch?]
   |_=>simp_all
theorem vO.mono{n n' z z':Nat}{t:Trace}(h:vO n z t)(hn:n≤n')(hz:z≤z'):vO n' z' t:=⟨λop ho=>Nat.lt_of_lt_of_le (h.num op ho) hn,h.race,λj x b hx hb=>Nat.lt_of_lt_of_le (h.inb j x b hx hb) hz,h.norel⟩
theorem vO.app{n z k i:Nat}{t u:Trace}(h:vO n z t)(hz:z≤k)(hi:i < n)(hg:∀op∈u,op.g=i)(hb:∀op∈u,∀x,op.act.touch? =some x->∀b,blk x.loc=some b->b < k)(hr:∀op∈u,∀a,op.act≠.mark (.release a))
 (hk:∀j x,touchAt t j=some x->∀op∈u,∀y,op.act.touch? =some y->∀said,x.conflicts said y->Knows t i j):vO n k (t++u):=by
 refine⟨λop hop=>?_,λsaid=>noRace_append (g:=i) (h.race said) hg λj x hx op hop y hy hc=>hk j x hx op hop y hy said hc,λj x b hx hbl=>?_,λop hop=>?_⟩
 .
  rcases Array.mem_append.1 hop with hop |hop
  .exact h.num op hop
  simp_all
 .
  obtain⟨op,hop,hxa⟩:=touch_of hx;rcases getElem?_append_cases hop with⟨_,hop'⟩ |⟨_,hu⟩
  .exact Nat.lt_of_lt_of_le (h.inb j x b (by simp_all [touchAt_of]) hbl) hz
  grind
 .
  rcases Array.mem_append.1 hop with hop |hop
  .exact h.norel op hop
  simp_all
theorem vO.step{v:VW}{n k i z:Nat}{t:Trace}{fn:FuncId}{pos:String}{es:Array Event}(h:vO n z t)(hz:z≤k)(hi:i < n)(he:∀e∈es,lL v k e)
 (hk:∀j x,touchAt t j=some x->∀e∈es,x.loc=e.loc->x.loc.isMemory=true->(x.write=true\/e.write=true)->Knows t i j):vO n k (t++MemOp.ofEvents i fn pos es):=by
 have ho:=uP (i:=i) (fn:=fn) (pos:=pos) he
 refine h.app hz hi (λop hop=>(ho op hop).1) (λop hop x hx b hb=>?_) (λop hop a e=>?_) λj x hx op hop y hy said hc=>?_
 .
  obtain⟨e,hem,rfl⟩:=(ho op hop).2.2 x hx;exact(rQ (he e hem) hb).1
 .
  have:=(ho op hop).2.1 _ e;cases this
 .
  obtain⟨e,hem,rfl⟩:=(ho op hop).2.2 y hy;obtain⟨c1,c2,c3,_⟩:=hc;grind
theorem tJ{v:VW}{n i g:Nat}{t:Trace}{fn:FuncId}{pos:String}{es:Array Event}(he:∀e∈es,lL v n e):Deaf (t++MemOp.ofEvents i fn pos es) g=Deaf t g:=by
 by_cases h:i=g
 .subst h;rw [Deaf_own];unfold deafBehind;obtain⟨l⟩:=es;simp only [foldl_toArray'];generalize Deaf t i=d
  induction l generalizing d with
  |nil=>rfl
  |cons e l ih=>
   have h1:=vi (he e (by simp));simp_all
 .exact Deaf_other t h _ λop hop=>(uP he op hop).1
theorem qJ{t u:Trace}{j:Nat}(hj:j < t.size):(t++u).counts j↔t.counts j:=by
 simp_all [Trace.counts,Trace.act?,getElem?_append_old,heard_old]
structure KA(A:Nat->Prop)(t:Trace):Prop where
 own:∀j x b,touchAt t j=some x->blk x.loc=some b->¬A b->Knows t 0 j
 cnt:∀j,t.counts j->Knows t 0 j
theorem KA.mono{A A':Nat->Prop}{t:Trace}(h:KA A t)(hA:∀b,A b->A' b):KA A' t:=⟨λj x b hx hb ha=>h.own j x b hx hb λx=>ha (hA b x),h.cnt⟩
theorem KA.app{A:Nat->Prop}{t u:Trace}(h:KA A t)(hu:∀op∈u,op.g=0):KA A (t++u):=by
 refine⟨λj x b hx hb ha=>?_,λj hj=>?_⟩
 .obtain⟨op,hop,hxa⟩:=touch_of hx;rcases getElem?_append_cases hop with⟨_,hop'⟩ |⟨_,hm⟩
  .exact(h.own j x b (by simp_all [touchAt_of]) hb ha).app _
  grind [knows_own]
 .obtain⟨x,hx,_⟩:=id hj;obtain⟨op,hop,_⟩:=touch_of hx;rcases getElem?_append_cases hop with⟨hlt,_⟩ |⟨_,hm⟩
  .exact(h.cnt j ((qJ hlt).1 hj)).app _
  grind [knows_own]
section
variable (P:Program)(Post:Value->World->Prop)
def ww(m:Machine)(t:Trace):Prop:=∃n last o w' t',runNT P (n+1) m t=(.ended o w',t')/\runN P n m= .next last/\step P last= .ended o w'/\Conc.Good P Post last o w' t'
variable {P Post}
theorem ww.next{m m':Machine}{t:Trace}{ops:Array MemOp}(hs:stepT P m=(.next m',ops))(h:ww P Post m' (t++ops)):ww P Post m t:=by
 obtain⟨n,last,o,w',t',h1,h2,h3,h4⟩:=h;exact⟨n+1,last,o,w',t',by grind [runNT_succ_next],by grind [runN_succ_next],h3,h4⟩
end
def aL(k:Nat->Nat):Nat->Nat
 |0=>0
 |n+1=>aL k n+k n
def upd{α:Type}(f:Nat->α)(i:Nat)(x:α):Nat->α:=λj=>if j=i then x else f j
theorem bC{α:Type}{f:Nat->α}{i:Nat}{x:α}:upd f i x i=x:=if_pos rfl
theorem bz{α:Type}{f:Nat->α}{i j:Nat}{x:α}(h:j≠i):upd f i x j=f j:=if_neg h
theorem nH{k k':Nat->Nat}:∀{n:Nat},(∀j,j < n->k' j=k j)->aL k' n=aL k n
 |0,_=>rfl
 |n+1,h=>by
  simp only [aL]
  rw [nH λj hj=>h j (by omega),h n (by omega)]
theorem oP{k:Nat->Nat}{i x:Nat}:∀{n:Nat},i < n->aL (upd k i x) n+k i=aL k n+x
 |n+1,h=>by
  simp only [aL]
  by_cases e:i=n
  .
   grind [nH,bz,bC]
  .
   have:=oP (k:=k) (x:=x) (n:=n) (i:=i) (by omega)
   grind [bz]
theorem uk{k:Nat->Nat}{i:Nat}:∀{n:Nat},i < n->k i≤aL k n
 |n+1,h=>by
  simp only [aL]
  by_cases e:i=n
  .
   simp_all
  .
   have:=uk (k:=k) (n:=n) (i:=i) (by omega)
   omega
theorem xg{k:Nat->Nat}:∀{n:Nat},aL k n=0->∀i,i < n->k i=0
 |n+1,h,i,hi=>by
  simp only [aL] at h
  by_cases e:i=n
  .
   simp_all
  .
   exact xg (k:=k) (n:=n) (by omega) i (by omega)
def A7(P:Program)(gs:Array Goroutine)(t:Trace)(k:Nat->Nat):Prop:=∀i g,0 < i->gs[i]? =some g->QuitsD P (k i) (Deaf t i) g
structure yQ(P:Program)(v:VW)(fr:Frame)(cs:List Frame)(gs:Array Goroutine)(t:Trace)(k:Nat->Nat):Prop where
 head:gs[0]? =some (Gr fr cs)
 quit:A7 P gs t k
 tr:vO gs.size v.heap.size t
 ka:KA v.A t
 deaf:Deaf t 0=0
def oW(P:Program)(Post:Value->World->Prop):Tq:=λv fr cs=>
 ∀v1,bu v v1->∀(gs:Array Goroutine) (sl:Option (Nat×Nat)) (t:Trace) (k:Nat->Nat),yQ P v1 fr cs gs t k->ww P Post (crowd gs v1.toWorld sl) t
section
variable {P:Program}{Post:Value->World->Prop}
theorem BR{gs:Array Goroutine}{t:Trace}{k:Nat->Nat}{g0:Goroutine}(h0:gs[0]? =some g0)(hr:g0.status= .running)(hq:A7 P gs t k):∀g∈gs,awake g:=λg hg=>by
 obtain⟨i,hi,rfl⟩:=Array.getElem_of_mem hg
 have e:gs[i]? =some gs[i]:=Array.getElem?_eq_getElem hi
 rcases eq_zero_or_pos i with rfl |hp
 .
  simp_all [awake_of]
 .
  have:=(hq i _ hp e).status
  grind [awake_of]
theorem li{gs:Array Goroutine}{i j:Nat}{g g' x:Goroutine}{w':World}(hi:gs[i]? =some g)(h:((gs.map (woken P g g' w')).setIfInBounds i g')[j]? =some x):(j=i/\x=g')\/(j≠i/\∃y,gs[j]? =some y/\x=woken P g g' w' y):=by
 grind
theorem BK{gs:Array Goroutine}{i:Nat}{g g':Goroutine}{w':World}(hi:gs[i]? =some g):((gs.map (woken P g g' w')).setIfInBounds i g')[i]? =some g':=by
 grind
theorem BJ{gs:Array Goroutine}{i j:Nat}{g g' y:Goroutine}{w':World}(hne:j≠i)(hj:gs[j]? =some y)(hy:woken P g g' w' y=y):((gs.map (woken P g g' w')).setIfInBounds i g')[j]? =some y:=by
 grind
theorem zO{i:Nat}{fn:FuncId}{pos:String}{es:Array Event}(h:∀e∈es,Event.mute e=true):∀op∈MemOp.ofEvents i fn pos es,op.g=i/\op.act.touch? =none/\(∀a,op.act≠.mark (.release a))/\(op.act= .mark .disable\/op.act= .mark .enable):=by
 intro op hop;unfold MemOp.ofEvents at hop;split at hop
 .simp at hop
 .obtain⟨e,he,rfl⟩:=Array.mem_map.1 hop;have h0:=h e he;obtain⟨l,wr,sy⟩:=e;unfold Event.mute at h0;grind [mark,MemAct.ofEvent,MemAct.touch?]
theorem vO.words{n z i:Nat}{t u:Trace}(h:vO n z t)(hi:i < n)(hg:∀op∈u,op.g=i)(ht:∀op∈u,op.act.touch? =none)(hr:∀op∈u,∀a,op.act≠.mark (.release a)):vO n z (t++u):=
 h.app (Nat.le_refl _) hi hg (λop ho x hx=>by simp_all) hr λj x hx op ho y hy=>by simp_all
theorem de{t u:Trace}{j:Nat}{x:Touch}(ht:∀op∈u,op.act.touch? =none)(hx:touchAt (t++u) j=some x):j < t.size/\touchAt t j=some x:=by
 obtain⟨op,hop,hxa⟩:=touch_of hx;grind [getElem?_append_cases,touchAt_of]
theorem KA.words{A:Nat->Prop}{t u:Trace}(h:KA A t)(ht:∀op∈u,op.act.touch? =none):KA A (t++u):=
 ⟨λj x b hx hb ha=>(h.own j x b (de ht hx).2 hb ha).app _,λj hj=>by
  obtain⟨x,hx,_⟩:=id hj
  have:=(de ht hx).1
  exact(h.cnt j ((qJ this).1 hj)).app _⟩
theorem va{v:VW}{fr:Frame}{cs:List Frame}
 (h:∀v1,bu v v1->∀(gs:Array Goroutine) (sl:Option (Nat×Nat)) (t:Trace) (k:Nat->Nat),yQ P v1 fr cs gs t k->
  ∀d sl0,stepT P (crowd gs (v1.toWorld.at d) sl0)=runT P (crowd gs v1.toWorld sl) 0->ww P Post (crowd gs (v1.toWorld.at d) sl0) t):oW P Post v fr cs:=by
 have key:∀N,∀v1,bu v v1->∀(gs:Array Goroutine) (sl:Option (Nat×Nat)) (t:Trace) (k:Nat->Nat),aL k gs.size≤N->yQ P v1 fr cs gs t k->ww P Post (crowd gs v1.toWorld sl) t:=by
  intro N
  induction N using Nat.strongRecOn with
  |_ N ih=>
   intro v1 hr gs sl t k hN hL;obtain⟨h0,hq,ht,hk,hd⟩:=hL;obtain⟨i,g,d,sl',hi,hg,hst⟩:=crowd_pick (P:=P) (w:=v1.toWorld) (sl:=sl) (BR h0 rfl hq) ⟨0,_,h0,rfl⟩;have hr':bu v (v1.upd (v1.toWorld.at d)):=hr.trans (bu.drawn v1 d);rcases eq_zero_or_pos i with rfl |hp
   .exact h _ hr' gs sl' t k ⟨h0,hq,ht,hk,hd⟩ v1.drawn sl hst
   .have hqi:=hq i g hp hi;cases hki:k i with
    |zero=>
     rw [hki] at hqi;have hqi:g.status= .finished:=hqi.1;simp_all
    |succ n=>
     rw [hki] at hqi;rcases hqi with hf |⟨_,g',es,hm,hw,hq'⟩
     .simp_all
     .have hi0:(i == 0)=false:=by simp;omega
      have hgo:=runT_crowd_go (sl:=sl') hi (by rw [hi0];exact hw (v1.toWorld.at d));rw [<-hst] at hgo;refine ww.next hgo ?_;have hlt:=(Array.getElem?_eq_some_iff.1 hi).1;have hsz:((gs.map (woken P g g' (v1.toWorld.at d))).setIfInBounds i g').size=gs.size:=by simp
      have hmu:=zO (i:=i) (fn:=g.frame.fn) (pos:=g.frame.place) hm;have hu:=oP (k:=k) (x:=n) hlt;refine ih (aL (upd k i n) gs.size) (by omega) (v1.upd (v1.toWorld.at d)) hr' _ sl' _ (upd k i n) (by simp_all) ⟨?_,?_,?_,?_,?_⟩
      .simp_all [BJ,woken_running]
      .intro j x hj hx;rcases li hi hx with⟨rfl,rfl⟩ |⟨hne,y,hy,rfl⟩
       .simp_all [bC,Deaf_own]
       .rw [bz hne,woken_quitsD (hq j y hj hy),Deaf_other t (λe=>hne e.symm) _ λop ho=>(hmu op ho).1];exact hq j y hj hy
      .rw [hsz];exact ht.words hlt (λop ho=>(hmu op ho).1) (λop ho=>(hmu op ho).2.1) λop ho=>(hmu op ho).2.2.1
      .exact hk.words λop ho=>(hmu op ho).2.1
      .rw [Deaf_other t (by omega) _ λop ho=>(hmu op ho).1];exact hd
 intro v1 hr gs sl t k hL
 exact key _ v1 hr gs sl t k (Nat.le_refl _) hL
theorem yQ.step{v1:VW}{fr fr':Frame}{cs cs':List Frame}{gs:Array Goroutine}{t:Trace}{k:Nat->Nat}{w':World}{es:Array Event}(h:yQ P v1 fr cs gs t k)(hG:eP v1 w' es):
 yQ P (v1.upd w') fr' cs' ((gs.map (woken P (Gr fr cs) (Gr fr' cs') w')).setIfInBounds 0 (Gr fr' cs')) (t++MemOp.ofEvents 0 fr.fn fr.place es) k:=by
 obtain⟨h0,hq,ht,hk,hd⟩:=h
 have ho:=uP (i:=0) (fn:=fr.fn) (pos:=fr.place) hG.evs
 have hsz:((gs.map (woken P (Gr fr cs) (Gr fr' cs') w')).setIfInBounds 0 (Gr fr' cs')).size=gs.size:=by simp
 refine⟨BK h0,λj x hj hx=>?_,?_,hk.app λop hop=>(ho op hop).1,by rw [tJ hG.evs];exact hd⟩
 .
  rw [tJ hG.evs];rcases li h0 hx with⟨rfl,rfl⟩ |⟨hne,y,hy,rfl⟩
  .omega
  .rw [woken_quitsD (hq j y hj hy)];exact hq j y hj hy
 .
  rw [hsz];refine ht.step hG.size (by grind) hG.evs λj x hx e he hl hm _=>?_;obtain⟨b,hb⟩:=yI hm;exact hk.own j x b hx hb (rQ (hG.evs e he) (hl▸hb)).2.1
theorem oW.bc:BC P (oW P Post) where
 rely v v1 fr cs hr h v2 hr':=h v2 (hr.trans hr')
 step v fr cs h:=va λv1 hr gs sl t k hL d sl0 hm=>by
  obtain⟨fr',cs',w',es,h1,h2,h3⟩:=h v1 hr
  have hgo:=runT_crowd_go (sl:=sl) hL.head (by exact h1 (0 == 0))
  rw [<-hm] at hgo
  exact ww.next hgo (h3 (v1.upd w') (bu.refl _) _ sl _ k (hL.step h2))
theorem BN{gs:Array Goroutine}{w w':World}{sl:Option (Nat×Nat)}{i:Nat}{g:Goroutine}{o:Outcome}{es:Array Event}(hi:gs[i]? =some g)(h:stepG P (i == 0) g w= .ended o w' es):
 runT P (crowd gs w sl) i=(.ended o w',MemOp.ofEvents i g.frame.fn g.frame.place es):=by
 obtain⟨hlt,rfl⟩:=Array.getElem?_eq_some_iff.1 hi
 have hsw:=swapAt_of_lt hlt { (default:Goroutine) with status:=.finished }
 show runT P { world:=w,gs:=gs,rest:={ timers:= #[],alone:=none,slice:=sl } } i=_
 simp_all [runT,GStep.es]
theorem PT{fr:Frame}{w:World}{x:Value}{fn:Func}(h1:fr.mode= .returning)(h2:fr.defers=[])(hk:fr.kind= .normal)(hin:P.inits.idxOf? fr.fn=none)(h3:P.funcs[fr.fn]? =some fn)(h4:(results fn fr.tmps).run P w= .ok x w):
 stepG P true (Gr fr []) w= .ended (.done x) w (seen P fr.fn ((results fn fr.tmps).events P w #[])):=by
 simp [stepG,unwind,h1,h2,h3,h4,doReturn,hk,hin,GStep.after]
theorem FC{t:Trace}{A:Nat->Prop}(h:KA A t):t.HandedOver:=by
 intro i g hg hne hc;obtain⟨q,z,h1,h2,h3⟩:=h.cnt i hc;refine⟨q,by grind [Trace.g?],?_⟩;rcases h3 with rfl |h3
 .simp_all [Trace.g?,Option.map_some,Option.some.injEq]
 .exact h3
theorem Fh{gs:Array Goroutine}{w:World}{sl:Option (Nat×Nat)}{t:Trace}{k:Nat->Nat}(hq:A7 P gs t k):(crowd gs w sl).OnlyLeaving P:=by
 refine⟨λg hg=>?_,rfl⟩;obtain⟨j,hj⟩:=List.mem_iff_getElem?.1 hg;rw [getElem?_drop] at hj
 have hj':gs[1+j]? =some g:=by
  simp_all [crowd,getElem?_toList]
 exact⟨k (1+j),(hq _ g (by omega) hj').leaves⟩
theorem Fj{gs:Array Goroutine}{w:World}{sl:Option (Nat×Nat)}{k:Nat->Nat}{t:Trace}(hq:A7 P gs t k):(crowd gs w sl).EndHearing P t:=by
 intro i g hg hne;exact⟨k i,(hq i g (by omega) hg).hears _⟩
theorem oW.ret{v:VW}{fr:Frame}{x:Value}(hl:Lv P fr v (.returned x))(hk0:fr.kind= .normal)(hin:P.inits.idxOf? fr.fn=none)(hp:∀v1,bu v v1->Post x v1.toWorld):oW P Post v fr []:=by
 obtain⟨l1,l2,fn,l3,l4⟩:=hl;refine va λv1 hr gs sl t k hL d sl0 hst=>?_;obtain⟨h0,hq,ht,hk,hd⟩:=hL;obtain⟨r1,r2⟩:=l4 v1 hr;have hend:=BN (sl:=sl) h0 (PT l1 l2 hk0 hin l3 r1);rw [<-hst] at hend;have r3:∀e∈seen P fr.fn ((results fn fr.tmps).events P v1.toWorld #[]),lL v1 v1.heap.size e:=λe he=>r2.evs e (Conc.mem_seen he);have ho:=uP (i:=0) (fn:=fr.fn) (pos:=fr.place) r3
 have htr:=ht.step (Nat.le_refl _) (i:=0) (fn:=fr.fn) (pos:=fr.place) (by grind) r3 λj x hx e he hl hm _=>by
  obtain⟨b,hb⟩:=yI hm;exact hk.own j x b hx hb (rQ (r3 e he) (hl▸hb)).2.1
 have hka:=hk.app λop hop=>(ho op hop).1;have hq':A7 P gs (t++MemOp.ofEvents 0 fr.fn fr.place (seen P fr.fn ((results fn fr.tmps).events P v1.toWorld #[]))) k:=λi g hi hg=>by rw [tJ r3];exact hq i g hi hg
 exact⟨0,crowd gs (v1.toWorld.at d) sl0,.done x,v1.toWorld,_,by grind [runNT],rfl,by grind [step],x,rfl,hp v1 hr,htr.race,FC hka,Fh hq',Fj hq'⟩
end
structure Gl(P:Program)(T:Tq)(Gd:Machine->Trace->Prop):Prop where
 next:∀m m' t ops,stepT P m=(.next m',ops)->Gd m' (t++ops)->Gd m t
 fin:∀v fr cs,T v fr cs->∀gs sl t k,yQ P v fr cs gs t k->Gd (crowd gs v.toWorld sl) t
def Ep(P:Program)(T:Tq):Prop:=∀v fr cs,(∀Gd,Gl P T Gd->∀v1,bu v v1->∀gs sl t k,yQ P v1 fr cs gs t k->Gd (crowd gs v1.toWorld sl) t)->T v fr cs
def ec(P:Program):Md P:=.of (λT=>BC P T/\Ep P T) λ_ h=>h.1
theorem oW.ok{P:Program}{Post:Value->World->Prop}:(ec P).ok (oW P Post):=
 ⟨oW.bc,λv fr cs h v1 hr gs sl t k hL=>h (ww P Post) ⟨λ_ _ _ _ hs hw=>ww.next hs hw,λv' fr' cs' hT gs sl t k hL=>hT v' (bu.refl v') gs sl t k hL⟩ v1 hr gs sl t k hL⟩
theorem KD{P:Program}{Post:Value->World->Prop}{f:FuncId}{args:Array Value}{W:World}(hin:P.inits.idxOf? f=none)
 (h:jC (ec P) .normal f args (vw W) λe v'=>∃x,e= .returned x/\∀v1,bu v' v1->Post x v1.toWorld):
 ∃M last o w' t',runNT P (M+1) (solo (G (Frame.enter P f args .normal) []) W) #[]=(.ended o w',t')/\runN P M (solo (G (Frame.enter P f args .normal) []) W)= .next last/\step P last= .ended o w'/\Conc.Good P Post last o w' t':=by
 have hT:oW P Post (vw W) (Frame.enter P f args .normal) []:=h _ oW.ok [] λe v' fr ⟨x,he,hp⟩ hf hk hl=>by
  grind [oW.ret]
 have hno:∀i x,touchAt (#[]:Trace) i=some x->False:=λi x hx=>by grind [touchAt,Trace.act?]
 exact hT (vw W) (bu.refl _) #[G (Frame.enter P f args .normal) []] none #[] (λ_=>0) ⟨rfl,λi g hi hg=>by
  grind,⟨λop ho=>by simp at ho,λsaid ⟨i,j,_,⟨a,b,ha,_⟩,_⟩=>(hno i a ha).elim,λj x b hx _=>(hno j x hx).elim,λop ho=>by simp at ho⟩,⟨λj x b hx _ _=>(hno j x hx).elim,λj ⟨x,hx,_⟩=>(hno j x hx).elim⟩,rfl⟩
section
variable {α:Type}(r:α->α->Prop)
def Sb(b a:α):Prop:=∀x,r x b->r x a
def Dn(n:Nat)(s' s:Nat->α):Prop:=∃i,i < n/\r (s' i) (s i)/\∀j,j < n->j≠i->Sb r (s' j) (s j)
variable {r}
theorem Sb.refl(a:α):Sb r a a:=λ_ h=>h
theorem Sb.trans{a b c:α}(h:Sb r c b)(h':Sb r b a):Sb r c a:=λx hx=>h' x (h x hx)
theorem Jh:∀(n:Nat) (s:Nat->α),(∀i,i < n->Acc r (s i))->Acc (Dn r n) s
 |0,s,_=>Acc.intro s λs' ⟨i,hi,_⟩=>absurd hi (not_lt_zero i)
 |n+1,s,h=>by
  have key:∀a,Acc r a->∀s0,Acc (Dn r n) s0->∀s,Sb r (s n) a->(∀j,j < n->Sb r (s j) (s0 j))->Acc (Dn r (n+1)) s:=by
   intro a ha
   induction ha with
   |intro a _ ih1=>
    intro s0 h0
    induction h0 with
    |intro s0 h0 ih2=>
     intro s hn hs;refine Acc.intro s λs' ⟨i,hi,h1,h2⟩=>?_;by_cases e:i=n
     .subst e;exact ih1 (s' i) (hn _ h1) s0 (Acc.intro s0 h0) s' (Sb.refl _) λj hj=>(h2 j (by omega) (by omega)).trans (hs j hj)
     .have hin:i < n:=by omega
      refine ih2 s' ⟨i,hin,hs i hin _ h1,λj hj hne=>(h2 j (by omega) hne).trans (hs j hj)⟩ s' ((h2 n (by omega) (λe'=>e e'.symm)).trans hn) λj _=>Sb.refl _
  exact key (s n) (h n (lt_succ_self n)) s (Jh n s λi hi=>h i (by omega)) s (Sb.refl _) λj _=>Sb.refl _
end
structure dV where
 c:Nat:=0
 wt:Nat:=0
 sm:Nat:=0
 L:Nat:=0
 W:Nat:=0
 S:Nat:=0
 N:Nat:=0
 T:Nat:=0
 f:Nat:=0
 h:Nat:=0
 cs:Nat:=0
 cl:Bool:=false
@[reducible] def dV.word(q:dV):Nat:=q.L+2 * q.W+4 * q.S+8 * q.N
structure Ph where
 q:Bool:=false
 nr:Bool:=true
 df:Nat:=0
 lv:Nat:=1
 ac:Nat:=0
 w1:Nat:=0
 w2:Nat:=0
 nw:Nat:=0
 hd:Nat:=0
 dt:Nat:=0
 aw:Nat:=0
 rn:Nat:=0
 qu:Nat:=0
 tk:Nat:=0
 rh:Nat:=0
 ty:Nat:=0
 phi:Nat:=0
 se:Option (Nat×Nat):=none
 nb:Nat:=0
 rg:Bool:=false
 pd:Nat:=0
 cb:Option Nat:=none
 al:Bool:=false
 jn:Bool:=false
 sp:Nat:=0
 op:Bool:=false
 cd:Bool:=false
@[reducible] def Ph.quit:Ph:={ q:=true,nr:=false,lv:=0 }
@[reducible] def Ph.wk0:Ph:={ ac:=1,nw:=1 }
structure Gp where
 cr:Bool
 bw:Nat
 tW:TypeId
 bc:Nat
 bm:Nat
 tM:TypeId
 m0:Array Value
 bk:Nat
 R:Obj->Prop
 vok:Value->Prop
 lp:Nat->Value->VW->Frame->List Frame->Prop
def Gp.sh(p:Gp)(b:Nat):Prop:=b=p.bm\/(p.cr=true/\(b=p.bw\/b=p.bc))
@[reducible] def Gp.stA(p:Gp):Addr:=⟨p.bw,0,none⟩
@[reducible] def Gp.smA(p:Gp):Addr:=⟨p.bw,1,none⟩
@[reducible] def Gp.muA(p:Gp):Addr:=⟨p.bm,p.m0.size,none⟩
@[reducible] def Gp.msA(p:Gp):Addr:=⟨p.bm,p.m0.size+1,none⟩
def Gp.wc(p:Gp)(l:Loc):Prop:=l= .cell p.muA\/l= .cell p.msA\/(p.cr=true/\(l= .cell p.stA\/l= .cell p.smA\/l= .obj p.bc))
structure Gp.Ok(p:Gp):Prop where
 mb:p.bm≠p.bk
 wm:p.cr=true->p.bw≠p.bm/\p.bw≠p.bk/\p.bw≠p.bc
 cm:p.cr=true->p.bc≠p.bm/\p.bc≠p.bk
structure Gp.At(p:Gp)(w:World)(q:dV):Prop where
 wg:p.cr=true->w.heap[p.bw]? =some (.cells #[.int .u64 ((q.c * 4294967296+q.wt:Nat):Int),.int .u32 (q.sm:Int)] p.tW)
 ch:p.cr=true->w.heap[p.bc]? =some (.chan 0 #[] q.cl q.cs q.cs false)
 mu:w.heap[p.bm]? =some (.cells (p.m0++ #[.int .i32 (q.word:Int),.int .u32 (q.T:Int),.map (some p.bk)]) p.tM)
 mp:q.h=0->∃o,w.heap[p.bk]? =some o/\p.R o
structure Gp.Kf(p:Gp)(w:World):Prop where
 mu:∃x y,w.heap[p.bm]? =some (.cells (p.m0++ #[x,y,.map (some p.bk)]) p.tM)
 wg:p.cr=true->∃x y,w.heap[p.bw]? =some (.cells #[x,y] p.tW)
theorem Gp.At.kf{p:Gp}{w:World}{q:dV}(h:p.At w q):p.Kf w:=⟨⟨_,_,h.mu⟩,λhc=>⟨_,_,h.wg hc⟩⟩
def Gp.pk(p:Gp)(e:Event):Prop:=∃o,e=⟨.cell ⟨p.bm,o,none⟩,false,false⟩/\o≠p.m0.size/\o≠p.m0.size+1
def CS(a:Addr):Event:=⟨.cell a,false,true⟩
def MB(a:Addr):Event:=⟨.cell a,true,true⟩
def iR(m:Mark):Event:=⟨.mark m,false,true⟩
structure Gp.Eff(p:Gp)(w w':World)(q':dV):Prop where
 at_:p.At w' q'
 keep:∀b,¬p.sh b->w'.heap[b]? =w.heap[b]?
 size:w'.heap.size=w.heap.size
 os:w'.os=w.os
 tape:w'.tape=w.tape
 output:w'.output=w.output
theorem Gp.Eff.refl{p:Gp}{w:World}{q:dV}(h:p.At w q):p.Eff w w q:=⟨h,λ_ _=>rfl,rfl,rfl,rfl,rfl⟩
def al(n:Nat)(sg:Nat->Ph)(f:Ph->Nat):Nat:=aL (λi=>f (sg i)) n
theorem fp{n i:Nat}{sg:Nat->Ph}{f:Ph->Nat}{s:Ph}(h:i < n):al n (upd sg i s) f+f (sg i)=al n sg f+f s:=by
 have e:(λj=>f (upd sg i s j))=upd (λj=>f (sg j)) i (f s):=by
  grind [bC,bz]
 simp_all [al,oP]
theorem jZ{n i:Nat}{sg:Nat->Ph}{f:Ph->Nat}(h:i < n):f (sg i)≤al n sg f:=uk (k:=λi=>f (sg i)) h
theorem yL{n i:Nat}{sg:Nat->Ph}{f:Ph->Nat}(h:al n sg f=0)(hi:i < n):f (sg i)=0:=xg (k:=λi=>f (sg i)) h i hi
theorem jw{k k':Nat->Nat}:∀{n:Nat},(∀j,j < n->k j≤k' j)->aL k n≤aL k' n
 |0,_=>Nat.le_refl _
 |n+1,h=>by
  simp only [aL]
  have:=jw (k:=k) (k':=k') (n:=n) λj hj=>h j (by omega)
  grind
theorem Aw{k k':Nat->Nat}:∀{n:Nat},aL (λj=>k j+k' j) n=aL k n+aL k' n
 |0=>rfl
 |n+1=>by
  simp only [aL]
  rw [Aw]
  omega
theorem te{k:Nat->Nat}:∀{n:Nat},(∀i,i < n->k i=0)->aL k n=0
 |0,_=>rfl
 |n+1,h=>by simp only [aL];rw [te λi hi=>h i (by omega),h n (by omega)]
@[reducible] def Ph.mx(s:Ph):Nat:=s.hd+s.aw+s.rn+s.qu+s.tk+s.rh+s.ty
structure Ph.Ok(s:Ph)(i:Nat):Prop where
 one:s.mx≤s.lv
 rg:s.rg=true->s.mx=0/\i=0
 lv:s.q=false->s.lv=1
 quit:s.q=true->s=Ph.quit
 dt:s.dt≤s.hd
 main:i=0->s.ac=0/\s.w1=0/\s.w2=0/\s.nw=0/\s.q=false/\s.nr=true
 work:0 < i->s.q=false->s.ac+s.w1+s.w2=1/\(s.nr=true->s.ac=1)
structure Bk(p:Gp)(n:Nat)(sg:Nat->Ph)(q:dV):Prop where
 c:q.c=al n sg Ph.ac+(sg 0).pd
 un:(sg 0).rg=false->q.wt=0/\q.sm=0/\al n sg Ph.w1=0/\al n sg Ph.w2=0
 re:(sg 0).rg=true->(sg 0).pd=0/\(0 < q.c->q.wt=1/\q.sm=0/\al n sg Ph.w1=0/\al n sg Ph.w2=0)/\(q.c=0->q.wt=al n sg Ph.w1/\al n sg Ph.w1+al n sg Ph.w2+q.sm=1)
 pd:(sg 0).pd≤1
 rgc:(sg 0).rg=true\/(sg 0).cd=true->q.cl=true
 op:(sg 0).op=true->q.cl=false
 nw:q.cl=false->al n sg Ph.nw=(sg 0).sp
 le:q.L≤1/\q.W≤1/\q.S≤1
 hd:q.L=al n sg Ph.hd
 s0:q.S=0->q.W=al n sg Ph.aw+al n sg Ph.rn+q.T+al n sg Ph.tk/\al n sg Ph.qu=q.N+q.T+al n sg Ph.rn/\al n sg Ph.rh=0/\(q.L=0->0 < q.N->q.W=0->0 < al n sg Ph.ty)
 s1:q.S=1->q.W=0/\al n sg Ph.aw=0/\al n sg Ph.rn=0/\q.L+al n sg Ph.rh+q.T+al n sg Ph.tk=1/\al n sg Ph.qu+al n sg Ph.tk=q.N/\1≤q.N
 h:q.h=al n sg Ph.dt
 f:al n sg Ph.phi+2 * q.T≤q.f
 se:∀i ow φ,i < n->(sg i).se=some (ow,φ)->q.f≤φ/\(q.f=φ->q.word=ow)
 nb:∀i,i < n->(sg i).nb≤q.N/\((sg i).nb=0\/(q.S=1/\(sg i).tk=1))
 lv:al n sg Ph.lv≤(sg 0).sp+1/\(sg 0).sp≤100
 ok:∀i,i < n->(sg i).Ok i
 n0:0 < n
 cb:∀B,(sg 0).cb=some B->q.c≤B
 gone:(sg 0).al=true->∀i,0 < i->i < n->(sg i).q=true
theorem Bk.qk{p:Gp}{n:Nat}{sg:Nat->Ph}{q:dV}(h:Bk p n sg q):al n sg Ph.qu+al n sg Ph.tk≤101:=by
 have h1:al n sg Ph.qu+al n sg Ph.tk≤al n sg Ph.lv:=by
  unfold K.al;rw [<-Aw];exact jw λj hj=>(by have:=(h.ok j hj).one;grind)
 have:=h.lv;omega
theorem Bk.small{p:Gp}{n:Nat}{sg:Nat->Ph}{q:dV}(h:Bk p n sg q):q.N≤101/\q.T≤1:=by
 have h1:=h.qk;have h2:=h.le;rcases(show q.S=0\/q.S=1 by omega) with e |e
 .have:=h.s0 e;omega
 .have:=h.s1 e;omega
theorem Bk.cs{p:Gp}{n:Nat}{sg:Nat->Ph}{q:dV}(h:Bk p n sg q):q.c≤102/\q.wt≤1/\q.sm≤1:=by
 have h1:al n sg Ph.ac≤al n sg Ph.lv:=jw λj hj=>by
  have h2:=h.ok j hj;cases hq:(sg j).q with
  |true=>rw [h2.quit hq];simp_all
  |false=>
   have:=h2.lv hq;rcases eq_zero_or_pos j with e |e
   .have:=(h2.main e).1;omega
   .have:=(h2.work e hq).1;omega
 have h2:=h.lv;have h3:=h.c;have h4:=h.pd;refine⟨by omega,?_⟩;cases hr:(sg 0).rg with
 |false=>have:=h.un hr;omega
 |true=>
  have h5:=h.re hr;omega
def my(p:Gp)(mn:Bool)(s:Ph)(q:dV):Prop:=∃n sg i,i < n/\(mn=true↔i=0)/\sg i=s/\Bk p n sg q
def Sv(p:Gp)(mn:Bool)(s:Ph)(q:dV)(s':Ph)(q':dV):Prop:=∀n sg i,i < n->(mn=true↔i=0)->sg i=s->Bk p n sg q->Bk p n (upd sg i s') q'
theorem Sv.refl{p:Gp}{mn:Bool}{s:Ph}{q:dV}:Sv p mn s q s q:=λn sg i _ _ e h=>by
 have:upd sg i s=sg:=by
  funext j;by_cases e':j=i
  .simp_all [bC]
  .rw [bz e']
 simp_all
structure mL(p:Gp)(mn:Bool)(s s':Ph)(es:Array Event):Prop where
 sh:∀e∈es,(∃l wr,e=⟨l,wr,true⟩/\p.wc l)\/e=iR .disable\/e=iR .enable\/(∃a,e=iR (.acquire a))\/(∃a,e=iR (.releaseMerge a))\/(mn=true/\∃a,(e=iR (.read a)\/e=iR (.write a))/\p.wc (.cell a))
 df:deafBehind s.df es=(if s'.q=true then 1 else s'.df)
 deaf:mn=false->∀j,j < es.size->∀e,es[j]? =some e->(MemAct.ofEvent e).touch? ≠none->0 < deafBehind s.df (es.extract 0 j)
 acq:s'.dt≠s.dt->s'.dt=1->es= #[iR (.acquire p.muA)]/\s.df=0
 rel:s'.dt≠s.dt->s'.dt=0->es= #[iR (.releaseMerge p.muA)]/\s.df=0
 dt:s'.dt≤1
 nr:s.nr=true->s'.nr=false->es= #[iR (.releaseMerge p.stA)]/\s.df=0
 nr':s'.nr=true->s.nr=true
 jn:s'.jn=true->s'.al=true/\(s.jn=true\/(es= #[iR (.acquire p.stA)]/\s.df=0/\s.al=true))
 bw:mn=false->s.nr=false->p.cr=true/\∀e∈es,∀b,blk e.loc=some b->b=p.bw
inductive Rk where
 |leaf
 |mk (g:VW->dV->Value->Bool->Rk)
def Rk.lt(y:Rk):Rk->Prop
 | .leaf=>False
 | .mk g=>∃v q x b,y=g v q x b
theorem Do:∀r:Rk,Acc Rk.lt r
 | .leaf=>Acc.intro _ λy h=>h.elim
 | .mk g=>Acc.intro _ λy ⟨v,q,x,b,e⟩=>e▸Do (g v q x b)
@[reducible] def Gp.sA(p:Gp)(dt:Nat)(A:Nat->Prop):Nat->Prop:=λb=>if b=p.bk then dt=0 else A b
@[reducible] def VW.put(v:VW)(p:Gp)(dt:Nat)(w:World):VW:=⟨w,p.sA dt v.A,v.Z⟩
def J6(s:Ph)(q:dV):Prop:=(s.qu=1/\q.T=0)\/(s.rg=true/\q.sm=0)
abbrev Ta:=VW->dV->Value->Bool->Bool->Ph->VW->Frame->List Frame->Prop
section
variable (P:Program)(p:Gp)(T:Tq)(R:Ta)(mn:Bool)(s:Ph)(v:VW)(fr:Frame)(cs:List Frame)
def VC:Prop:=∀v1,bu v v1->p.Kf v1.toWorld->∃fr' cs' w' es,stepG P mn (Gr fr cs) v1.toWorld= .go (Gr fr' cs') w' es/\lK p.pk v1 w' es/\(s.nr=false->es= #[])/\∃q x b,R v1 q x b mn s (v1.upd w') fr' cs'
def GI(v1:VW)(q:dV):Prop:=∃s' q' fr' cs' w' es,stepG P mn (Gr fr cs) v1.toWorld= .go (Gr fr' cs') w' es/\p.Eff v1 w' q'/\Sv p mn s q s' q'/\mL p mn s s' es/\((q.T < q'.T\/q.sm < q'.sm\/q.cl≠q'.cl)->mayWake P (Gr fr cs)=true)/\(q.cl=true->q'.cl=true)/\
 (s'.q=false->∃q x b,R v1 q x b mn s' (v1.put p s'.dt w') fr' cs')/\(s'.q=true->mn=false/\∃m,QuitsD P m 1 (Gr fr' cs'))
def VD:Prop:=∀v1 q,bu v v1->p.At v1 q->my p mn s q->GI P p R mn s fr cs v1 q
def Vz:Prop:=(s.qu=1\/s.rg=true)/\∀v1 q,bu v v1->p.At v1 q->my p mn s q->(J6 s q->stepG P mn (Gr fr cs) v1.toWorld= .go { Gr fr cs with status:=.blocked } v1.toWorld #[])/\(¬J6 s q->GI P p R mn s fr cs v1 q)
def Gq(z:Value):Prop:=p.cr=true/\mn=false/\s.nw=1/\s.q=false/\s.mx=0/\s.rg=false/\(∀w:World,stepG P mn (Gr fr cs) w= .comm (Gr fr cs) #[rcase p.bc z] true (.recv true) w #[])/\
 (∀v1 x,bu v v1->p.vok x->s={ ac:=1,nw:=1,phi:=s.phi }/\p.lp (s.phi+12) x v1 (fr.finish (.tuple #[x,.bool true])) cs)/\
 ∀v1,bu v v1->∃q y b,R v1 q y b mn { s with nw:=0 } v1 (fr.finish (.tuple #[z,.bool false])) cs
def VB:Prop:=∃z,Gq P p R mn s v fr cs z
def Kq(x z:Value):Prop:=p.cr=true/\mn=true/\s.op=true/\0 < s.sp/\12≤s.phi/\s.q=false/\s.mx=0/\s.rg=false/\p.vok x/\(∀w:World,stepG P mn (Gr fr cs) w= .comm (Gr fr cs) #[scase p.bc x z] true .send w #[])/\
 ∀v1,bu v v1->∃q y b,R v1 q y b mn { s with phi:=s.phi - 12 } v1 (fr.finish undef) cs
def VA:Prop:=∃x z,Kq P p R mn s v fr cs x z
def Vl:Prop:=p.cr=true/\mn=true/\s.pd=1/\s.df=0/\s.rg=false/\s.op=true/\s.sp < 100/\∃fr' fc Sh,(∀w:World,stepG P mn (Gr fr cs) w= .spawn (Gr fr' cs) (Gr fc []) w #[])/\(∀b,Sh b->b < v.heap.size/\¬v.A b/\b≠p.bk)/\
 (∀v1,bu v v1->∃q x b,R v1 q x b false .wk0 ⟨v1.toWorld,λb=>b < v1.heap.size/\¬Sh b,Sh⟩ fc [])/\
 ∀v1,bu v v1->∃q x b,R v1 q x b mn { s with pd:=0,sp:=s.sp+1,al:=false,jn:=false } ⟨v1.toWorld,v1.A,λb=>v1.Z b\/Sh b⟩ fr' cs
def Vn:Prop:=mn=true/\s.jn=true/\s.al=true/\s.df=0/\s.dt=0/\∃Z0:Nat->Prop,∀v1 q,bu v v1->p.At v1 q->my p mn s q->T ⟨v1.toWorld,λb=>v1.A b/\b≠p.bm/\b≠p.bk,Z0⟩ fr cs
def Nj:Prop:=s.q=false/\(VC P p R mn s v fr cs\/VD P p R mn s v fr cs\/Vz P p R mn s v fr cs\/VB P p R mn s v fr cs\/VA P p R mn s v fr cs\/Vl P p R mn s v fr cs\/Vn p T mn s v fr cs)
end
def vM(P:Program)(p:Gp)(T:Tq):Rk->Bool->Ph->VW->Frame->List Frame->Prop
 | .leaf=>λmn s v fr cs=>Nj P p T (λ_ _ _ _ _ _ _ _ _=>False) mn s v fr cs
 | .mk g=>λmn s v fr cs=>Nj P p T (λv q x b=>vM P p T (g v q x b)) mn s v fr cs
@[reducible] def yz(P:Program)(p:Gp)(T:Tq):Rk->Ta
 | .leaf=>λ_ _ _ _ _ _ _ _ _=>False
 | .mk g=>λv q x b=>vM P p T (g v q x b)
theorem Ou{P:Program}{p:Gp}{T:Tq}{r:Rk}{mn:Bool}{s:Ph}{v:VW}{fr:Frame}{cs:List Frame}:vM P p T r mn s v fr cs↔Nj P p T (yz P p T r) mn s v fr cs:=by cases r <;> exact Iff.rfl
theorem ti{P:Program}{p:Gp}{T:Tq}{r:Rk}{v1:VW}{q:dV}{x:Value}{b mn:Bool}{s:Ph}{v:VW}{fr:Frame}{cs:List Frame}(h:yz P p T r v1 q x b mn s v fr cs):∃r',Rk.lt r' r/\vM P p T r' mn s v fr cs:=by
 cases r with
 |leaf=>grind
 |mk g=>exact⟨g v1 q x b,⟨v1,q,x,b,rfl⟩,h⟩
def Ww(P:Program)(p:Gp)(T:Tq)(mn:Bool)(s:Ph):Tq:=λv fr cs=>∃r,vM P p T r mn s v fr cs
def Gs(P:Program)(p:Gp)(T:Tq):Prop:=∀c x v fr cs,p.lp c x v fr cs->p.vok x->Ww P p T false { ac:=1,nw:=1,phi:=c } v fr cs
section
variable {P:Program}{p:Gp}{T:Tq}{R:Ta}{mn:Bool}{s:Ph}{v v':VW}{fr:Frame}{cs:List Frame}
theorem Nj.rely(hr:bu v v')(h:Nj P p T R mn s v fr cs):Nj P p T R mn s v' fr cs:=by
 refine⟨h.1,?_⟩;rcases h.2 with h |h |⟨h0,h⟩ |⟨z,h1,h2,h3,h4,h5,h6,h7,h8,h9⟩ |⟨x,z,h1,h2,h3,h4,h5,h6,h6',h6'',h7,h8,h9⟩ |⟨h1,h2,h3,h4,h5,h6,h7,fr',fc,Sh,g1,g2,g3,g4⟩ |⟨h1,h2,h3,h4,h5,Z0,h6⟩
 .exact .inl λv1 h1=>h v1 (hr.trans h1)
 .exact .inr (.inl λv1 q h1=>h v1 q (hr.trans h1))
 .exact .inr (.inr (.inl ⟨h0,λv1 q h1=>h v1 q (hr.trans h1)⟩))
 .exact .inr (.inr (.inr (.inl ⟨z,h1,h2,h3,h4,h5,h6,h7,λv1 x g=>h8 v1 x (hr.trans g),λv1 g=>h9 v1 (hr.trans g)⟩)))
 .exact .inr (.inr (.inr (.inr (.inl ⟨x,z,h1,h2,h3,h4,h5,h6,h6',h6'',h7,h8,λv1 g=>h9 v1 (hr.trans g)⟩))))
 .refine .inr (.inr (.inr (.inr (.inr (.inl ⟨h1,h2,h3,h4,h5,h6,h7,fr',fc,Sh,g1,λb hb=>?_,λv1 g=>g3 v1 (hr.trans g),λv1 g=>g4 v1 (hr.trans g)⟩)))));obtain⟨k1,k2,k3⟩:=g2 b hb;exact⟨Nat.lt_of_lt_of_le k1 hr.size,λha=>(hr.old b ha).elim k2 λx=>by omega,k3⟩
 .exact .inr (.inr (.inr (.inr (.inr (.inr ⟨h1,h2,h3,h4,h5,Z0,λv1 q g=>h6 v1 q (hr.trans g)⟩)))))
theorem vM.rely{r:Rk}(hr:bu v v')(h:vM P p T r mn s v fr cs):vM P p T r mn s v' fr cs:=by
 cases r with
 |leaf=>exact Nj.rely hr h
 |mk g=>exact Nj.rely hr h
theorem Ww.rely(hr:bu v v')(h:Ww P p T mn s v fr cs):Ww P p T mn s v' fr cs:=let ⟨r,h⟩:=h;⟨r,h.rely hr⟩
theorem pick{α:Type}{c:α->Prop}{d:α->Rk->Prop}(h:∀a,c a->∃r,d a r):∃f:α->Rk,∀a,c a->d a (f a):=by
 haveI hd:∀a,Decidable (c a):=λa=>Classical.propDecidable _;exact⟨λa=>if hc:c a then Classical.choose (h a hc) else .leaf,λa hc=>by grind⟩
theorem GI.pick{v1:VW}{q:dV}(h:GI P p (λ_ _ _ _=>Ww P p T) mn s fr cs v1 q):∃r,GI P p (λ_ _ _ _=>vM P p T r) mn s fr cs v1 q:=by
 obtain⟨s',q',fr',cs',w',es,h1,h2,h3,h4,h5,h5',h6,h7⟩:=h;cases hq:s'.q with
 |true=>exact⟨.leaf,s',q',fr',cs',w',es,h1,h2,h3,h4,h5,h5',λe=>(by simp_all),h7⟩
 |false=>
  obtain⟨_,_,_,r,h6⟩:=h6 hq;exact⟨r,s',q',fr',cs',w',es,h1,h2,h3,h4,h5,h5',λ_=>⟨q,undef,true,h6⟩,h7⟩
theorem GI.mono{R R':Ta}{v1:VW}{q:dV}(hR:∀mn s v fr cs,(∃q x b,R v1 q x b mn s v fr cs)->∃q x b,R' v1 q x b mn s v fr cs)(h:GI P p R mn s fr cs v1 q):GI P p R' mn s fr cs v1 q:=by
 obtain⟨s',q',fr',cs',w',es,h1,h2,h3,h4,h5,h5',h6,h7⟩:=h;exact⟨s',q',fr',cs',w',es,h1,h2,h3,h4,h5,h5',λe=>hR _ _ _ _ _ (h6 e),h7⟩
theorem Ww.of(h:Nj P p T (λ_ _ _ _=>Ww P p T) mn s v fr cs):Ww P p T mn s v fr cs:=by
 obtain⟨hq,h⟩:=h;rcases h with h |h |⟨h0,h⟩ |⟨z,h1,h2,h3,h4,h5,h6,h7,h8,h9⟩ |⟨x,z,h1,h2,h3,h4,h5,h6,h6',h6'',h7,h8,h9⟩ |⟨h1,h2,h3,h4,h5,h6,h7,fr',fc,Sh,g1,g2,g3,g4⟩ |h
 .obtain⟨f,hf⟩:=pick (α:=VW) (c:=λv1=>bu v v1/\p.Kf v1.toWorld) (d:=λv1 r=>∃fr' cs' w' es,stepG P mn (Gr fr cs) v1.toWorld= .go (Gr fr' cs') w' es/\lK p.pk v1 w' es/\(s.nr=false->es= #[])/\vM P p T r mn s (v1.upd w') fr' cs') λv1 hv=>by
   obtain⟨fr',cs',w',es,k1,k2,k3,_,_,_,r,k4⟩:=h v1 hv.1 hv.2;grind
  refine⟨.mk λv1 _ _ _=>f v1,hq,.inl λv1 hr hk=>?_⟩;obtain⟨fr',cs',w',es,k1,k2,k3,k4⟩:=hf v1 ⟨hr,hk⟩;exact⟨fr',cs',w',es,k1,k2,k3,{},undef,true,k4⟩
 .obtain⟨f,hf⟩:=pick (α:=VW×dV) (c:=λx=>bu v x.1/\p.At x.1 x.2/\my p mn s x.2) (d:=λx r=>GI P p (λ_ _ _ _=>vM P p T r) mn s fr cs x.1 x.2) λx hx=>(h x.1 x.2 hx.1 hx.2.1 hx.2.2).pick;refine⟨.mk λv1 q _ _=>f (v1,q),hq,.inr (.inl λv1 q hr ha hp=>?_)⟩;exact(hf (v1,q) ⟨hr,ha,hp⟩).mono λ_ _ _ _ _ ⟨_,_,_,k⟩=>⟨q,undef,true,k⟩
 .obtain⟨f,hf⟩:=pick (α:=VW×dV) (c:=λx=>bu v x.1/\p.At x.1 x.2/\my p mn s x.2) (d:=λx r=>(J6 s x.2->stepG P mn (Gr fr cs) x.1.toWorld= .go { Gr fr cs with status:=.blocked } x.1.toWorld #[])/\(¬J6 s x.2->GI P p (λ_ _ _ _=>vM P p T r) mn s fr cs x.1 x.2)) λx hx=>by
   obtain⟨k1,k2⟩:=h x.1 x.2 hx.1 hx.2.1 hx.2.2;by_cases hb:J6 s x.2
   .exact⟨.leaf,k1,λe=>absurd hb e⟩
   .obtain⟨r,hr⟩:=(k2 hb).pick;exact⟨r,k1,λ_=>hr⟩
  refine⟨.mk λv1 q _ _=>f (v1,q),hq,.inr (.inr (.inl ⟨h0,λv1 q hr ha hp=>?_⟩))⟩;obtain⟨k1,k2⟩:=hf (v1,q) ⟨hr,ha,hp⟩;exact⟨k1,λe=>(k2 e).mono λ_ _ _ _ _ ⟨_,_,_,k⟩=>⟨q,undef,true,k⟩⟩
 .obtain⟨g,hg⟩:=pick (α:=VW) (c:=λx=>bu v x) (d:=λx r=>vM P p T r mn { s with nw:=0 } x (fr.finish (.tuple #[z,.bool false])) cs) λx hx=>by
   obtain⟨_,_,_,r,k⟩:=h9 x hx;grind
  exact⟨.mk λv1 _ _ _=>g v1,hq,.inr (.inr (.inr (.inl ⟨z,h1,h2,h3,h4,h5,h6,h7,h8,λv1 hr=>⟨{},undef,false,hg v1 hr⟩⟩)))⟩
 .obtain⟨f,hf⟩:=pick (α:=VW) (c:=λx=>bu v x) (d:=λx r=>vM P p T r mn { s with phi:=s.phi - 12 } x (fr.finish undef) cs) λx hx=>by
   obtain⟨_,_,_,r,k⟩:=h9 x hx;grind
  exact⟨.mk λv1 _ _ _=>f v1,hq,.inr (.inr (.inr (.inr (.inl ⟨x,z,h1,h2,h3,h4,h5,h6,h6',h6'',h7,h8,λv1 hr=>⟨{},undef,true,hf v1 hr⟩⟩))))⟩
 .obtain⟨f,hf⟩:=pick (α:=VW) (c:=λx=>bu v x) (d:=λx r=>vM P p T r false .wk0 ⟨x.toWorld,λb=>b < x.heap.size/\¬Sh b,Sh⟩ fc []) λx hx=>by
   obtain⟨_,_,_,r,k⟩:=g3 x hx;grind
  obtain⟨g,hg⟩:=pick (α:=VW) (c:=λx=>bu v x) (d:=λx r=>vM P p T r mn { s with pd:=0,sp:=s.sp+1,al:=false,jn:=false } ⟨x.toWorld,x.A,λb=>x.Z b\/Sh b⟩ fr' cs) λx hx=>by
   obtain⟨_,_,_,r,k⟩:=g4 x hx;grind
  exact⟨.mk λv1 _ _ b=>if b then f v1 else g v1,hq,.inr (.inr (.inr (.inr (.inr (.inl ⟨h1,h2,h3,h4,h5,h6,h7,fr',fc,Sh,g1,g2,λv1 hr=>⟨{},undef,true,hf v1 hr⟩,λv1 hr=>⟨{},undef,false,hg v1 hr⟩⟩)))))⟩
 .exact⟨.leaf,hq,.inr (.inr (.inr (.inr (.inr (.inr h)))))⟩
theorem Ww.own(hq:s.q=false)(h:∀v1,bu v v1->p.Kf v1.toWorld->∃fr' cs' w' es,stepG P mn (Gr fr cs) v1.toWorld= .go (Gr fr' cs') w' es/\lK p.pk v1 w' es/\(s.nr=false->es= #[])/\Ww P p T mn s (v1.upd w') fr' cs'):Ww P p T mn s v fr cs:=
 .of ⟨hq,.inl λv1 hr hk=>let ⟨fr',cs',w',es,k1,k2,k3,k4⟩:=h v1 hr hk;⟨fr',cs',w',es,k1,k2,k3,{},undef,true,k4⟩⟩
theorem Ww.move{fr':Frame}{cs':List Frame}(hq:s.q=false)(h1:∀w:World,p.Kf w->stepG P mn (Gr fr cs) w= .go (Gr fr' cs') w #[])(h:Ww P p T mn s v fr' cs'):Ww P p T mn s v fr cs:=
 Ww.own hq λv1 hr hk=>⟨fr',cs',v1.toWorld, #[],h1 _ hk,(eP.refl v1).k,λ_=>rfl,h.rely hr⟩
theorem Ww.bc(hq:s.q=false)(hn:s.nr=true):BC P (Ww P p T mn s) where
 rely _ _ _ _ hr h:=h.rely hr
 step v fr cs h:=Ww.own hq λv1 hr _=>by
  obtain⟨fr',cs',w',es,k1,k2,k3⟩:=h v1 hr
  exact⟨fr',cs',w',es,k1 mn,k2.k,λe=>(by simp_all),k3⟩
theorem Qh(hq:s.q=false)(hn:s.nr=true):U2 P p.Kf p.pk (Ww P p T mn s):=λv fr cs h=>Ww.own hq λv1 hr hk=>by
 grind
def MW(P:Program)(p:Gp)(T:Tq):Md P:=⟨λT'=>∃mn s,s.q=false/\s.nr=true/\T'=Ww P p T mn s,p.Kf,p.pk,λT' ⟨_,_,h1,h2,e⟩=>e▸Ww.bc h1 h2,λT' ⟨_,_,h1,h2,e⟩=>e▸Qh h1 h2⟩
end
def LZ(A:Nat->Nat->Prop)(i n n':Nat):Nat->Nat->Prop:=λj b=>A j b\/(j≠i/\n≤b/\b < n')
theorem IW{A:Nat->Nat->Prop}{i n n':Nat}:LZ A i n n' i=A i:=by
 grind [LZ]
inductive JB(P:Program)(p:Gp)(T:Tq)(mn:Bool)(V:VW)(r:Rk)(s:Ph)(q:dV):Goroutine->Prop
 |run {fr:Frame} {cs:List Frame} (h:vM P p T r mn s V fr cs):JB P p T mn V r s q (Gr fr cs)
 |blk {fr:Frame} {cs:List Frame} (hb:J6 s q) (h:vM P p T r mn s V fr cs):JB P p T mn V r s q { Gr fr cs with status:=.blocked }
 |rcv {fr:Frame} {cs:List Frame} {z:Value} (hc:q.cl=false) (h:Gq P p (yz P p T r) mn s V fr cs z):JB P p T mn V r s q (parked (Gr fr cs) #[rcase p.bc z] (.recv true))
 |rcd {fr:Frame} {cs:List Frame} {z:Value} (hc:q.cl=true) (h:Gq P p (yz P p T r) mn s V fr cs z):JB P p T mn V r s q { parked (Gr fr cs) #[rcase p.bc z] (.recv true) with status:=.running }
 |snd {fr:Frame} {cs:List Frame} {x z:Value} (h:Kq P p (yz P p T r) mn s V fr cs x z):JB P p T mn V r s q (parked (Gr fr cs) #[scase p.bc x z] .send)
def SU(P:Program)(p:Gp)(T:Tq)(mn:Bool)(V:VW)(r:Rk)(k d:Nat)(s:Ph)(q:dV)(g:Goroutine):Prop:=(s.q=true->QuitsD P k d g)/\(s.q=false->JB P p T mn V r s q g)
section
variable {P:Program}{p:Gp}{T:Tq}{R:Ta}{mn:Bool}{V V':VW}{r:Rk}{s:Ph}{q q':dV}{g g' x:Goroutine}{w':World}{fr:Frame}{cs:List Frame}
theorem Gq.rely{z:Value}(hr:bu V V')(h:Gq P p R mn s V fr cs z):Gq P p R mn s V' fr cs z:=by
 obtain⟨h1,h2,h3,h4,h5,h6,h7,h8,h9⟩:=h;exact⟨h1,h2,h3,h4,h5,h6,h7,λv1 x g=>h8 v1 x (hr.trans g),λv1 g=>h9 v1 (hr.trans g)⟩
theorem Kq.rely{x z:Value}(hr:bu V V')(h:Kq P p R mn s V fr cs x z):Kq P p R mn s V' fr cs x z:=by
 obtain⟨h1,h2,h3,h4,h5,h6,h6',h6'',h7,h8,h9⟩:=h;exact⟨h1,h2,h3,h4,h5,h6,h6',h6'',h7,h8,λv1 g=>h9 v1 (hr.trans g)⟩
theorem JB.pas(h:JB P p T mn V r s q x)(hr:bu V V')(hb:J6 s q->J6 s q'\/(mayWake P g=true/\g'.status= .running))(hcl:q.cl=true->q'.cl=true)(hop:mn=true->s.op=true->q'.cl=false)
 (hch:p.cr=true->∃n,w'.heap[p.bc]? =some (.chan 0 #[] q'.cl n n false)) (hcc:q.cl≠q'.cl->mayWake P g=true/\g'.status= .running):JB P p T mn V' r s q' (Conc.woken P g g' w' x):=by
 have hwk:mayWake P g=true/\g'.status= .running->∀o:Goroutine,Conc.woken P g g' w' o=o.again w':=λ⟨h1,h2⟩ o=>by simp_all [Conc.woken]
 cases h with
 |run h=>rw [woken_running rfl];exact .run (h.rely hr)
 | @blk fr cs hb' h=>
  have e:({ Gr fr cs with status:=.blocked }:Goroutine).again w'=Gr fr cs:=rfl;rcases hb hb' with h1 |h1
  .have:Conc.woken P g g' w' { Gr fr cs with status:=.blocked }=Gr fr cs\/Conc.woken P g g' w' { Gr fr cs with status:=.blocked }={ Gr fr cs with status:=.blocked }:=by
    grind [Conc.woken]
   rcases this with h2 |h2
   .rw [h2];exact .run (h.rely hr)
   .rw [h2];exact .blk h1 (h.rely hr)
  .rw [hwk h1,e];exact .run (h.rely hr)
 | @rcv fr cs z hc h=>
  obtain⟨n,hch⟩:=hch h.1;cases hq:q'.cl with
  |false=>
   rw [hq] at hch;rw [woken_recv_open g g' hch];exact .rcv hq (h.rely hr)
  |true=>
   rw [hq] at hch;rw [hwk (hcc (by simp_all)),again_recv_closed hch];exact .rcd hq (h.rely hr)
 |rcd hc h=>rw [woken_running rfl];exact .rcd (hcl hc) (h.rely hr)
 |snd h=>
  obtain⟨n,hch⟩:=hch h.1;rw [hop h.2.1 h.2.2.1] at hch;rw [woken_send_open g g' hch];exact .snd (h.rely hr)
theorem JB.awake(h:JB P p T mn V r s q x):awake x:=by
 cases h with
 |run h=>simp_all [awake_of]
 |blk hb h=>simp_all [awake_of]
 |rcv hc h=>exact awake_of (.inr (.inl rfl))
 |rcd hc h=>simp_all [awake_of]
 |snd h=>exact awake_of (.inr (.inl rfl))
theorem SU.awake{k d:Nat}(h:SU P p T mn V r k d s q x):Conc.awake x:=by
 cases hq:s.q with
 |true=>exact awake_of ((h.1 hq).status.elim .inl λh=>.inr (.inr h))
 |false=>exact(h.2 hq).awake
end
def vx(a:Addr)(t:Trace)(j:Nat):Prop:=∃q z,t[q]? =some z/\z.act= .mark (.releaseMerge a)/\t.heard q/\Before t j q
theorem vx.app{a:Addr}{t:Trace}{j:Nat}(u:Trace)(h:vx a t j):vx a (t++u) j:=by
 obtain⟨q,z,h1,h2,h3,h4⟩:=h;have hlt:=lt_size_of_getElem? h1;exact⟨q,z,by grind,h2,(heard_old hlt).2 h3,h4.app u⟩
def Oq(p:Gp)(t:Trace)(j:Nat)(op:MemOp):Prop:=t.counts j\/∃x b,op.act.touch? =some x/\blk x.loc=some b/\(b=p.bm\/b=p.bk)
theorem Oq.old{p:Gp}{t u:Trace}{j:Nat}{op:MemOp}(hj:j < t.size)(h:Oq p (t++u) j op):Oq p t j op:=h.imp (qJ hj).1 id
structure CW(P:Program)(p:Gp)(T:Tq)(n:Nat)(sg:Nat->Ph)(rk:Nat->Rk)(k:Nat->Nat)(A Z:Nat->Nat->Prop)(q:dV)(gs:Array Goroutine)(w:World)(t:Trace):Prop where
 size:gs.size=n
 tr:vO n w.heap.size t
 domA:∀i b,A i b->b < w.heap.size
 domZ:∀i b,Z i b->b < w.heap.size
 cover:∀i j b,i < n->j < n->i≠j->b < w.heap.size->¬A i b->¬A j b->Z i b/\Z j b
 knows:∀i j x b,i < n->(sg i).q=false->touchAt t j=some x->blk x.loc=some b->¬A i b->(x.write=true\/¬Z i b\/x.kind≠.plain)->Knows t i j
 shk:∀i j x b,i < n->(sg i).q=false->touchAt t j=some x->blk x.loc=some b->p.sh b->Knows t i j\/(x.kind≠.plain/\p.wc x.loc)\/(x.kind= .plain/\x.write=false/\¬p.wc x.loc)
 shs:∀(j:Nat) (x:Touch) (b:Nat),touchAt t j=some x->blk x.loc=some b->p.sh b->x.kind= .said->Knows t 0 j
 lkf:q.h=0->∀i j x,i < n->(sg i).q=false->touchAt t j=some x->blk x.loc=some p.bk->Knows t i j\/vx p.muA t j
 kn:∀(j:Nat) (op:MemOp),t[j]? =some op->Oq p t j op->Knows t 0 j\/(0 < op.g/\(sg op.g).q=false/\(sg op.g).nr=true)\/vx p.stA t j
 jn:(sg 0).jn=true->(sg 0).al=true/\∀(j:Nat) (op:MemOp),t[j]? =some op->Oq p t j op->Knows t 0 j
 deaf:∀i,i < n->(sg i).q=false->Deaf t i=(sg i).df
 sts:∀i g,gs[i]? =some g->SU P p T (i == 0) ⟨w,A i,Z i⟩ (rk i) (k i) (Deaf t i) (sg i) q g
 at_:p.At w q
 bk:Bk p n sg q
 shA:∀b,p.sh b->∀i,A i b
 bkl:p.bk < w.heap.size
 bkZ:∀i,¬Z i p.bk
 bkA:∀i,i < n->(A i p.bk↔(sg i).dt=0)
 pp:∀g,gs[0]? =some g->(∃fr cs x z,g=parked (Gr fr cs) #[scase p.bc x z] .send)->∀i g',0 < i->gs[i]? =some g'->¬∃fr cs z,g'=parked (Gr fr cs) #[rcase p.bc z] (.recv true)
 ok:p.Ok
section
variable {P:Program}{p:Gp}{T:Tq}{n:Nat}{sg:Nat->Ph}{rk:Nat->Rk}{k:Nat->Nat}{A Z:Nat->Nat->Prop}{q:dV}{gs:Array Goroutine}{w w':World}{t:Trace}
theorem CW.lt(h:CW P p T n sg rk k A Z q gs w t){i:Nat}{g:Goroutine}(hi:gs[i]? =some g):i < n:=by
 have:=(Array.getElem?_eq_some_iff.1 hi).1;rwa [h.size] at this
theorem CW.others(h:CW P p T n sg rk k A Z q gs w t){i j:Nat}(hi:i < n)(hj:j < n)(hne:j≠i)(hG:eP ⟨w,A i,Z i⟩ w' #[]):bu ⟨w,A j,Z j⟩ ⟨w',LZ A i w.heap.size w'.heap.size j,Z j⟩ where
 keep b hb ha:=by
  refine hG.keep b hb ?_;by_cases h1:A i b
  .simp_all
  .exact .inr (h.cover i j b hi hj (λe=>hne e.symm) hb h1 ha).1
 size:=hG.size
 sub b hb:=.inl hb
 old b hb:=hb.imp id λx=>x.2.1
 dom hd b hb:=by
  rcases hb with hb |hb
  .exact Nat.lt_of_lt_of_le (hd b hb) hG.size
  simp_all
 Z:=rfl
 os:=hG.os
 tape:=hG.tape
 output:=hG.output
theorem CW.at(h:CW P p T n sg rk k A Z q gs w t)(d:Nat):CW P p T n sg rk k A Z q gs (w.at d) t:=
 { h with
  sts:=λi g hg=>by
   have hs:=h.sts i g hg
   refine⟨hs.1,λhq=>?_⟩
   have hr:=bu.drawn ⟨w,A i,Z i⟩ d
   cases hs.2 hq with
   |run h=>exact .run (h.rely hr)
   |blk hb h=>exact .blk hb (h.rely hr)
   |rcv hc h=>exact .rcv hc (h.rely hr)
   |rcd hc h=>exact .rcd hc (h.rely hr)
   |snd h=>exact .snd (h.rely hr)
  at_:=⟨h.at_.wg,h.at_.ch,h.at_.mu,h.at_.mp⟩ }
theorem pP{g g' o:Goroutine}{w1:World}(h:(Conc.woken P g g' w1 o).status= .blocked):Conc.woken P g g' w1 o=o:=by
 unfold Conc.woken at h⊢;split
 .rename_i hc;rw [if_pos hc] at h;unfold Goroutine.again at h⊢;split
  .grind
  .simp_all
  .simp_all
  .rfl
 .rfl
theorem CW.pp'(h:CW P p T n sg rk k A Z q gs w t){i:Nat}{g g':Goroutine}{w1:World}(hi:gs[i]? =some g)(hs:g'.status≠.blocked):∀g0,((gs.map (Conc.woken P g g' w1)).setIfInBounds i g')[0]? =some g0->(∃fr cs x z,g0=parked (Gr fr cs) #[scase p.bc x z] .send)->∀i1 g1,0 < i1->((gs.map (Conc.woken P g g' w1)).setIfInBounds i g')[i1]? =some g1->¬∃fr cs z,g1=parked (Gr fr cs) #[rcase p.bc z] (.recv true):=by
 intro g0 h0 hg0 i1 g1 hp h1 hg1;have hb0:g0.status= .blocked:=by obtain⟨_,_,_,_,rfl⟩:=hg0;rfl
 have hb1:g1.status= .blocked:=by obtain⟨_,_,_,rfl⟩:=hg1;rfl
 rcases li hi h0 with⟨_,rfl⟩ |⟨_,y0,hy0,rfl⟩
 .grind
 rcases li hi h1 with⟨_,rfl⟩ |⟨_,y1,hy1,rfl⟩
 .grind
 rw [pP hb0] at hg0;rw [pP hb1] at hg1;exact h.pp _ hy0 hg0 _ _ hp hy1 hg1
theorem Q8{v:VW}{n i:Nat}{fn:FuncId}{pos:String}{es:Array Event}(h:∀e∈es,lL v n e\/p.pk e):∀op∈MemOp.ofEvents i fn pos es,op.g=i/\(∀m,op.act= .mark m->QE m=true)/\(∀x,op.act.touch? =some x->∃e∈es,x=⟨e.loc,e.write,.plain⟩):=by
 intro op hop;unfold MemOp.ofEvents at hop;split at hop
 .simp at hop
 .obtain⟨e,he,rfl⟩:=Array.mem_map.1 hop;rcases h e he with h0 |⟨o,rfl,_⟩
  .have:=uP (i:=i) (fn:=fn) (pos:=pos) (v:=v) (n:=n) (es:= #[e]) (λe' he'=>by simp_all) { g:=i,fn,pos,act:=.ofEvent e } (by simp [MemOp.ofEvents]);grind
  grind [MemAct.ofEvent,MemAct.touch?]
theorem Gz{v:VW}{n i g:Nat}{t:Trace}{fn:FuncId}{pos:String}{es:Array Event}(h:∀e∈es,lL v n e\/p.pk e):Deaf (t++MemOp.ofEvents i fn pos es) g=Deaf t g:=by
 by_cases hg:i=g
 .subst hg;rw [Deaf_own];unfold deafBehind;obtain⟨l⟩:=es;simp only [foldl_toArray'];generalize Deaf t i=d
  induction l generalizing d with
  |nil=>rfl
  |cons e l ih=>
   have h1:e.loc≠.mark .disable/\e.loc≠.mark .enable:=by
    rcases h e (by simp) with h1 |⟨o,rfl,_⟩
    .exact vi h1
    simp_all
   simp_all
 .exact Deaf_other t hg _ λop hop=>(Q8 h op hop).1
theorem Q7(hok:p.Ok){o:Nat}(h:o≠p.m0.size/\o≠p.m0.size+1):¬p.wc (.cell ⟨p.bm,o,none⟩):=by
 rintro(e |e |⟨hc,e |e |e⟩)
 .simp_all
 .simp_all
 .simp only [Loc.cell.injEq,Addr.mk.injEq] at e;exact(hok.wm hc).1 e.1.symm
 .simp only [Loc.cell.injEq,Addr.mk.injEq] at e;exact(hok.wm hc).1 e.1.symm
 .cases e
theorem CW.own(h:CW P p T n sg rk k A Z q gs w t){i:Nat}{r':Rk}{g:Goroutine}{fr fr':Frame}{cs':List Frame}{es:Array Event}(hi:gs[i]? =some g)(hgf:g.frame=fr)(hq:(sg i).q=false)(hG:lK p.pk ⟨w,A i,Z i⟩ w' es)(hn:(sg i).nr=false->es= #[])
 (hw:vM P p T r' (i == 0) (sg i) ⟨w',A i,Z i⟩ fr' cs'):
 CW P p T n sg (upd rk i r') k (LZ A i w.heap.size w'.heap.size) Z q ((gs.map (Conc.woken P g (Gr fr' cs') w')).setIfInBounds i (Gr fr' cs')) w' (t++MemOp.ofEvents i fr.fn fr.place es):=by
 have hin:=h.lt hi
 have hops:=Q8 (p:=p) (i:=i) (fn:=fr.fn) (pos:=fr.place) hG.evs
 have hD:∀j,Deaf (t++MemOp.ofEvents i fr.fn fr.place es) j=Deaf t j:=λj=>Gz hG.evs
 have hbm:p.sh p.bm:=.inl rfl
 have hnew:∀{op:MemOp} {x:Touch} {b:Nat},op∈MemOp.ofEvents i fr.fn fr.place es->op.act.touch? =some x->blk x.loc=some b->x.kind= .plain/\((b < w'.heap.size/\¬A i b/\(x.write=true->¬Z i b))\/(b=p.bm/\x.write=false/\¬p.wc x.loc)):=λ{op x b} hu hx hb=>by
  obtain⟨e,he,rfl⟩:=(hops op hu).2.2 x hx;rcases hG.evs e he with h1 |⟨o,rfl,ho⟩
  .have:=rQ h1 hb;simp_all
  .cases hb;exact⟨rfl,.inr ⟨rfl,rfl,Q7 h.ok ho⟩⟩
 have hsz:=hG.base.size
 have hkeep:∀b,A i b->w'.heap[b]? =w.heap[b]? :=λb hb=>hG.base.keep b (h.domA i b hb) (.inl hb)
 have hsh:∀b,p.sh b->w'.heap[b]? =w.heap[b]? :=λb hb=>hkeep b (h.shA b hb i)
 have hdt0:q.h=0->A i p.bk:=λe=>by
  rw [h.bkA i hin];have:=jZ (sg:=sg) (f:=Ph.dt) hin;have:=h.bk.h;omega
 have hAt:p.At w' q:=⟨λhc=>(hsh _ (.inr ⟨hc,.inl rfl⟩)).trans (h.at_.wg hc),λhc=>(hsh _ (.inr ⟨hc,.inr rfl⟩)).trans (h.at_.ch hc),(hsh _ hbm).trans h.at_.mu,λe=>by rw [hkeep _ (hdt0 e)];exact h.at_.mp e⟩
 refine⟨by simp [h.size],?_,λj b hb=>?_,λj b hb=>Nat.lt_of_lt_of_le (h.domZ j b hb) hsz,λi1 j1 b hi1 hj1 hne hb h1 h2=>?_,λi1 j x b hi1 ha1 hx hb hA hZ=>?_,λi1 j x b hi1 ha1 hx hb hs=>?_,λj x b hx hb hs hk=>?_,λe i1 j x hi1 ha1 hx hb=>?_,λj op hop hc=>?_,λe=>⟨(h.jn e).1,λj op hop hc=>?_⟩,λj hj hjq=>by rw [hD];exact h.deaf j hj hjq,λj x hx=>?_,hAt,h.bk,λb hb j=>.inl (h.shA b hb j),Nat.lt_of_lt_of_le h.bkl hsz,h.bkZ,λj hj=>?_,?_,h.ok⟩
 .
  refine h.tr.app hsz hin (λop hop=>(hops op hop).1) (λop hop x hx b hb=>?_) (λop hop a e=>?_) λj x hx op hop y hy said hc=>?_
  .rcases(hnew hop hx hb).2 with h1 |h1
   .exact h1.1
   .rw [h1.1];exact Nat.lt_of_lt_of_le (h.domA i _ (h.shA _ hbm i)) hsz
  .have:=(hops op hop).2.1 _ e;cases this
  .obtain⟨c1,c2,c3,_⟩:=hc;obtain⟨b,hb⟩:=yI c2;rcases(hnew hop hy (c1▸hb)).2 with h1 |⟨h1,h2,h3⟩
   .exact h.knows i j x b hin hq hx hb h1.2.1 (c3.imp id λe=>.inl (h1.2.2 e))
   .subst h1;rcases h.shk i j x _ hin hq hx hb hbm with h4 |⟨_,h4⟩ |⟨_,h4,_⟩
    .exact h4
    .simp_all
    simp_all
 .
  rcases hb with hb |hb
  .exact Nat.lt_of_lt_of_le (h.domA j b hb) hsz
  omega
 .
  have hlt:b < w.heap.size:=by
   rcases Nat.lt_or_ge b w.heap.size with hlt |hge
   .exact hlt
   .exfalso;by_cases e:i1=i
    .exact h2 (.inr ⟨λe'=>hne (e.trans e'.symm),hge,hb⟩)
    .exact h1 (.inr ⟨e,hge,hb⟩)
  exact h.cover i1 j1 b hi1 hj1 hne hlt (λx=>h1 (.inl x)) λx=>h2 (.inl x)
 .
  obtain⟨op,hop,hxa⟩:=touch_of hx;rcases getElem?_append_cases hop with⟨_,hop'⟩ |⟨_,hu⟩
  .exact(h.knows i1 j x b hi1 ha1 (by simp_all [touchAt_of]) hb (λy=>hA (.inl y)) hZ).app _
  .by_cases e:i1=i
   .grind [knows_own]
   .obtain⟨hk,⟨hb1,hb2,hb3⟩ |⟨hb1,_⟩⟩:=hnew hu hxa hb
    .have hlt:b < w.heap.size:=by
      rcases Nat.lt_or_ge b w.heap.size with hlt |hge
      .exact hlt
      .exact absurd (.inr ⟨e,hge,hb1⟩) hA
     obtain⟨z1,z2⟩:=h.cover i i1 b hin hi1 (λe'=>e e'.symm) hlt hb2 λy=>hA (.inl y);rcases hZ with hZ |hZ |hZ
     .simp_all
     .simp_all
     simp_all
    .exact absurd (.inl (h.shA b (hb1▸hbm) i1)) hA
 .
  obtain⟨op,hop,hxa⟩:=touch_of hx;rcases getElem?_append_cases hop with⟨_,hop'⟩ |⟨_,hu⟩
  .exact(h.shk i1 j x b hi1 ha1 (by simp_all [touchAt_of]) hb hs).imp (·.app _) id
  .obtain⟨hk,⟨_,hb2,_⟩ |⟨_,hb2,hb3⟩⟩:=hnew hu hxa hb
   .exact absurd (h.shA b hs i) hb2
   simp_all
 .
  obtain⟨op,hop,hxa⟩:=touch_of hx;rcases getElem?_append_cases hop with⟨_,hop'⟩ |⟨_,hu⟩
  .exact(h.shs j x b (by simp_all [touchAt_of]) hb hs hk).app _
  grind
 .
  obtain⟨op,hop,hxa⟩:=touch_of hx;rcases getElem?_append_cases hop with⟨_,hop'⟩ |⟨_,hu⟩
  .exact(h.lkf e i1 j x hi1 ha1 (by simp_all [touchAt_of]) hb).imp (·.app _) (·.app _)
  .rcases(hnew hu hxa hb).2 with h1 |h1
   .simp_all
   .exact absurd h1.1.symm h.ok.mb
 .
  rcases getElem?_append_cases hop with⟨hlt,hop'⟩ |⟨_,hu⟩
  .exact(h.kn j op hop' (hc.old hlt)).imp (·.app _) (.imp id (·.app _))
  grind [eq_zero_or_pos,knows_own,MemOp.ofEvents]
 .
  rcases getElem?_append_cases hop with⟨hlt,hop'⟩ |⟨_,hu⟩
  .exact((h.jn e).2 j op hop' (hc.old hlt)).app _
  .have hg:=(hops op hu).1
   have e0:i=0:=by
    rcases eq_zero_or_pos i with e0 |hp
    .exact e0
    .have:=h.bk.gone (h.jn e).1 i hp hin;simp_all
   grind [knows_own]
 .
  rcases li hi hx with⟨rfl,rfl⟩ |⟨hne,y,hy,rfl⟩
  .rw [IW,bC];exact⟨λe=>(by simp_all),λ_=>.run hw⟩
  .have hs:=h.sts j y hy;rw [bz hne,hD];refine⟨λe=>?_,λe=>?_⟩
   .rw [woken_quitsD (hs.1 e)];exact hs.1 e
   .exact(hs.2 e).pas (h.others hin (h.lt hy) hne hG.base) .inl id (λhm ho=>h.bk.op (by simp_all)) (λhc=>⟨q.cs,hAt.ch hc⟩) λe=>absurd rfl e
 .
  rw [<-h.bkA j hj];exact⟨λe=>e.elim id λx=>absurd h.bkl (by omega),.inl⟩
 .
  exact h.pp' hi (λe=>by cases e)
end
theorem Au{k:Nat->Nat}{i j:Nat}:∀{n:Nat},i < n->j < n->i≠j->k i+k j≤aL k n
 |n+1,hi,hj,hne=>by
  simp only [aL]
  by_cases e:i=n
  .
   subst e
   have:=uk (k:=k) (n:=i) (i:=j) (by omega)
   omega
  .
   by_cases e':j=n
   .
    subst e'
    have:=uk (k:=k) (n:=j) (i:=i) (by omega)
    omega
   .
    have:=Au (k:=k) (n:=n) (i:=i) (j:=j) (by omega) (by omega) hne
    omega
theorem Jr{n i j:Nat}{sg:Nat->Ph}{f:Ph->Nat}(hi:i < n)(hj:j < n)(hne:i≠j):f (sg i)+f (sg j)≤al n sg f:=Au (k:=λi=>f (sg i)) hi hj hne
theorem Bk.dt1{p:Gp}{n:Nat}{sg:Nat->Ph}{q:dV}(h:Bk p n sg q):al n sg Ph.dt≤1:=by
 have h1:al n sg Ph.dt≤al n sg Ph.hd:=jw λj hj=>(h.ok j hj).dt;have:=h.hd;have:=h.le;omega
theorem vx.acq{a:Addr}{t:Trace}{j i:Nat}{z:MemOp}(h:vx a t j)(hz:z.g=i/\z.act= .mark (.acquire a))(hd:Deaf t i=0)(hr:∀op∈t,∀a,op.act≠.mark (.release a)):Knows (t++ #[z]) i j:=by
 obtain⟨q,y,h1,h2,h3,h4⟩:=h;have hlt:=lt_size_of_getElem? h1;have hzp:(t++ #[z])[t.size]? =some z:=by simp_all
 have hyp:(t++ #[z])[q]? =some y:=by grind
 have e0:(t++ #[z]).heard t.size:=⟨i,by simp_all [Trace.g?],by rw [deaf_old (Nat.le_refl _)];exact hd⟩;have e1:(t++ #[z]).heard q:=(heard_old hlt).2 h3
 have hb:HappensBefore (t++ #[z]) q t.size:=.single (.inr ⟨.marked (a:=a) hlt (.inr (by grind [act?_of])) (by grind [act?_of]) (λk h1 h2 h3=>by
  have hk:(t++ #[z]).act? k=t.act? k:=by grind [Trace.act?,getElem?_append_old]
  rw [hk] at h3;obtain⟨op,hop,ho⟩:=Option.map_eq_some_iff.1 h3;grind),e1,e0⟩)
 exact⟨t.size,z,hzp,hz.1,.inr ((h4.app _).hb hb)⟩
theorem A6{a:Addr}{t:Trace}{j i:Nat}{z:MemOp}(h:Knows t i j)(hz:z.g=i/\z.act= .mark (.releaseMerge a))(hd:Deaf t i=0):vx a (t++ #[z]) j:=by
 obtain⟨q,y,h1,h2,h3⟩:=h;have hlt:=lt_size_of_getElem? h1;have hzp:(t++ #[z])[t.size]? =some z:=by simp_all
 have hyp:(t++ #[z])[q]? =some y:=by grind
 exact⟨t.size,z,hzp,hz.2,⟨i,by simp_all [Trace.g?],by rw [deaf_old (Nat.le_refl _)];exact hd⟩,.inr ((h3.app _).hb (hb_po hlt hyp hzp (h2.trans hz.1.symm)))⟩
theorem oC{i:Nat}{fn:FuncId}{pos:String}{m:Mark}:MemOp.ofEvents i fn pos #[iR m]= #[{ g:=i,fn:=fn,pos:=pos,act:=.mark m }]:=by
 grind [ofEvents_eq,iR,MemAct.ofEvent]
section
variable {P:Program}{p:Gp}{T:Tq}{n:Nat}{sg:Nat->Ph}{rk:Nat->Rk}{k:Nat->Nat}{A Z:Nat->Nat->Prop}{q q':dV}{gs:Array Goroutine}{w w':World}{t:Trace}
theorem CW.quitStep(h:CW P p T n sg rk k A Z q gs w t){i m:Nat}{g g':Goroutine}{es:Array Event}{fn:FuncId}{pos:String}(hi:gs[i]? =some g)(hs:(sg i).q=true)(hes:∀e∈es,Event.mute e=true)(hq:QuitsD P m (deafBehind (Deaf t i) es) g'):
 CW P p T n sg rk (upd k i m) A Z q ((gs.map (Conc.woken P g g' w)).setIfInBounds i g') w (t++MemOp.ofEvents i fn pos es):=by
 have hin:=h.lt hi
 have hmu:=zO (i:=i) (fn:=fn) (pos:=pos) hes
 have hg:=λop ho=>(hmu op ho).1
 have ht:=λop ho=>(hmu op ho).2.1
 have hoth:∀j,j≠i->Deaf (t++MemOp.ofEvents i fn pos es) j=Deaf t j:=λj hj=>Deaf_other t (λe=>hj e.symm) _ hg
 have hnc:∀{j:Nat} {op:MemOp},op∈MemOp.ofEvents i fn pos es->(t++MemOp.ofEvents i fn pos es)[j]? =some op->¬Oq p (t++MemOp.ofEvents i fn pos es) j op:=λ{j op} hm hop hc=>by
  rcases hc with⟨x,hx,_⟩ |⟨x,b,hx,_⟩
  .grind [touch_of]
  simp_all
 refine { h with size:=by simp [h.size],tr:=h.tr.words hin hg ht λop ho=>(hmu op ho).2.2.1,knows:=λi1 j x b h1 h2 hx hb ha hz=>(h.knows i1 j x b h1 h2 (de ht hx).2 hb ha hz).app _,shk:=λi1 j x b h1 h2 hx hb hs'=>(h.shk i1 j x b h1 h2 (de ht hx).2 hb hs').imp (·.app _) id,shs:=λj x b hx hb hs' hk=>(h.shs j x b (de ht hx).2 hb hs' hk).app _,lkf:=λe i1 j x h1 h2 hx hb=>(h.lkf e i1 j x h1 h2 (de ht hx).2 hb).imp (·.app _) (·.app _),kn:=λj op hop hc=>?_,jn:=λe=>⟨(h.jn e).1,λj op hop hc=>?_⟩,deaf:=λj hjn hq=>by rw [hoth j λe=>by simp_all];exact h.deaf j hjn hq,sts:=λj x hx=>?_,pp:=h.pp' hi λe=>by rcases hq.status with h1 |h1 <;> rw [h1] at e <;> cases e }
 .
  rcases getElem?_append_cases hop with⟨hlt,hop'⟩ |⟨_,hm⟩
  .exact(h.kn j op hop' (hc.old hlt)).imp (·.app _) (.imp id (·.app _))
  simp_all
 .
  rcases getElem?_append_cases hop with⟨hlt,hop'⟩ |⟨_,hm⟩
  .exact((h.jn e).2 j op hop' (hc.old hlt)).app _
  simp_all
 .
  rcases li hi hx with⟨rfl,rfl⟩ |⟨hne,y,hy,rfl⟩
  .rw [bC,Deaf_own];exact⟨λ_=>hq,λe=>(by simp_all)⟩
  .have hs':=h.sts j y hy;rw [bz hne,hoth j hne];refine⟨λe=>?_,λe=>?_⟩
   .rw [woken_quitsD (hs'.1 e)];exact hs'.1 e
   .exact(hs'.2 e).pas (bu.refl _) .inl id (λhm ho=>h.bk.op (by simp_all)) (λhc=>⟨q.cs,h.at_.ch hc⟩) λe=>absurd rfl e
structure JF(p:Gp)(i:Nat)(u:Trace):Prop where
 num:∀op∈u,op.g=i
 touch:∀op∈u,∀x,op.act.touch? =some x->∃b,blk x.loc=some b/\p.sh b/\p.wc x.loc/\(x.kind= .atomic\/(x.kind= .said/\i=0))
 rel:∀op∈u,∀a,op.act≠.mark (.release a)
theorem uq{l:Loc}(h:p.wc l):∃b,blk l=some b/\p.sh b:=by
 rcases h with rfl |rfl |⟨hc,rfl |rfl |rfl⟩
 .exact⟨_,rfl,.inl rfl⟩
 .exact⟨_,rfl,.inl rfl⟩
 .exact⟨_,rfl,.inr ⟨hc,.inl rfl⟩⟩
 .exact⟨_,rfl,.inr ⟨hc,.inl rfl⟩⟩
 .exact⟨_,rfl,.inr ⟨hc,.inr rfl⟩⟩
theorem mL.ops{mn:Bool}{s s':Ph}{es:Array Event}(h:mL p mn s s' es){i:Nat}{fn:FuncId}{pos:String}(hm:mn=true->i=0):JF p i (MemOp.ofEvents i fn pos es):=by
 have hop:∀op∈MemOp.ofEvents i fn pos es,∃e∈es,op={ g:=i,fn,pos,act:=.ofEvent e }:=λop ho=>by
  unfold MemOp.ofEvents at ho;grind
 refine⟨λop ho=>?_,λop ho x hx=>?_,λop ho a ha=>?_⟩
 .grind
 .obtain⟨e,he,rfl⟩:=hop op ho;rcases h.sh e he with⟨l,wr,rfl,hw⟩ |rfl |rfl |⟨a,rfl⟩ |⟨a,rfl⟩ |⟨h0,a,rfl |rfl,hw⟩
  .obtain⟨b,hb,hs⟩:=uq hw
   have key:x=⟨l,wr,.atomic⟩:=by
    cases l with
    |cell a=>simp_all [MemAct.ofEvent,MemAct.touch?,eq_comm]
    |obj c=>cases wr <;> simp [MemAct.ofEvent,MemAct.touch?,eq_comm] at hx⊢;exact hx
    |_=>cases hb
   simp_all
  .grind [MemAct.ofEvent,iR,MemAct.touch?]
  .grind [MemAct.ofEvent,iR,MemAct.touch?]
  .grind [MemAct.ofEvent,iR,MemAct.touch?]
  .grind [MemAct.ofEvent,iR,MemAct.touch?]
  .grind [uq,MemAct.ofEvent,iR,MemAct.touch?]
  grind [uq,MemAct.ofEvent,iR,MemAct.touch?]
 .obtain⟨e,he,rfl⟩:=hop op ho;rcases h.sh e he with⟨l,wr,rfl,hw⟩ |rfl |rfl |⟨a,rfl⟩ |⟨a,rfl⟩ |⟨h0,a,rfl |rfl,hw⟩
  .obtain⟨b,hb,_⟩:=uq hw;cases l with
   |cell a=>grind [MemAct.ofEvent]
   |obj c=>cases wr <;> simp [MemAct.ofEvent] at ha
   |_=>cases hb
  all_goals grind [MemAct.ofEvent,iR]
theorem Hz(hok:p.Ok){b:Nat}(h:p.sh b):b≠p.bk:=by
 rcases h with rfl |⟨hc,rfl |rfl⟩
 .exact hok.mb
 .exact(hok.wm hc).2.1
 .exact(hok.cm hc).2
theorem CW.tr_ops(h:CW P p T n sg rk k A Z q gs w t){i:Nat}{u:Trace}(hin:i < n)(hiq:(sg i).q=false)(hu:JF p i u):vO n w.heap.size (t++u):=by
 refine h.tr.app (Nat.le_refl _) hin hu.num (λop ho x hx b hb=>?_) hu.rel λj x hx op ho y hy said hc=>?_
 .obtain⟨b',hb',hs,_⟩:=hu.touch op ho x hx;rw [hb] at hb';cases hb';exact h.domA 0 b (h.shA b hs 0)
 .obtain⟨b,hb,hs,hw,hk⟩:=hu.touch op ho y hy;obtain⟨c1,c2,c3,c4⟩:=hc;rw [<-c1] at hb hw;rcases h.shk i j x b hin hiq hx hb hs with h1 |⟨h1,_⟩ |⟨_,_,h1⟩
  .exact h1
  .rcases c4 with c4 |c4 |⟨_,c4,c5⟩
   .simp_all
   .simp_all
   .rcases hk with hk |⟨_,hk⟩
    .simp_all
    .rw [hk];exact h.shs j x b hx hb hs c4
  simp_all
theorem Gp.Eff.rely(h:p.Eff w w' q){a z:Nat->Prop}(ha:∀b,p.sh b->a b):bu ⟨w,a,z⟩ ⟨w',a,z⟩ where
 keep b _ hb:=h.keep b λx=>hb (ha b x)
 size:=Nat.le_of_eq h.size.symm
 sub _ hb:=hb
 old _ hb:=.inl hb
 dom hd b hb:=by show b < w'.heap.size;rw [h.size];simp_all
 Z:=rfl
 os:=.of h.os
 tape:=h.tape
 output:=h.output
theorem CW.act(h:CW P p T n sg rk k A Z q gs w t){i:Nat}{r':Rk}{g:Goroutine}{fr fr':Frame}{cs':List Frame}{es:Array Event}{s':Ph}(hi:gs[i]? =some g)(hgf:g.frame=fr)(hs:(sg i).q=false)(hE:p.Eff w w' q')(hS:Sv p (i == 0) (sg i) q s' q')(hV:mL p (i == 0) (sg i) s' es)
 (hwk:(q.T < q'.T\/q.sm < q'.sm\/q.cl≠q'.cl)->mayWake P g=true) (hcl:q.cl=true->q'.cl=true)
 (hw:s'.q=false->vM P p T r' (i == 0) s' ⟨w',p.sA s'.dt (A i),Z i⟩ fr' cs') (hq:s'.q=true->(i == 0)=false/\∃m,QuitsD P m 1 (Gr fr' cs')):
 ∃k',CW P p T n (upd sg i s') (upd rk i r') (upd k i k') (upd A i (p.sA s'.dt (A i))) Z q' ((gs.map (Conc.woken P g (Gr fr' cs') w')).setIfInBounds i (Gr fr' cs')) w' (t++MemOp.ofEvents i fr.fn fr.place es):=by
 have hin:=h.lt hi
 have hm0:(i == 0)=true->i=0:=λe=>by simp_all
 have hm1:i≠0->(i == 0)=false:=λe=>by simp_all
 have hu:JF p i (MemOp.ofEvents i fr.fn fr.place es):=hV.ops hm0
 have hbk':Bk p n (upd sg i s') q':=hS n sg i hin (by simp) rfl h.bk
 have hA:∀j b,b≠p.bk->(upd A i (p.sA s'.dt (A i)) j b↔A j b):=λj b hb=>by
  by_cases e:j=i
  .subst e;rw [bC];simp_all
  .rw [bz e]
 have hAk:∀j,j < n->(upd A i (p.sA s'.dt (A i)) j p.bk↔(upd sg i s' j).dt=0):=λj hj=>by
  by_cases e:j=i
  .simp_all [bC,Gp.sA,if_true]
  .rw [bz e,bz e];exact h.bkA j hj
 have hqq:∀j,(upd sg i s' j).q=false->(sg j).q=false:=λj hj=>by
  grind [bz]
 have hDi:Deaf t i=(sg i).df:=h.deaf i hin hs
 have hoth:∀j,j≠i->Deaf (t++MemOp.ofEvents i fr.fn fr.place es) j=Deaf t j:=λj hj=>Deaf_other t (λe=>hj e.symm) _ hu.num
 have hown:Deaf (t++MemOp.ofEvents i fr.fn fr.place es) i=if s'.q=true then 1 else s'.df:=by
  rw [Deaf_own,hDi];exact hV.df
 have hold:∀{j:Nat} {x:Touch} {b:Nat},touchAt (t++MemOp.ofEvents i fr.fn fr.place es) j=some x->blk x.loc=some b->¬p.sh b->touchAt t j=some x:=λ{j x b} hx hb hnb=>by
  obtain⟨op,hop,hxa⟩:=touch_of hx;rcases getElem?_append_cases hop with⟨_,hop'⟩ |⟨_,hm⟩
  .simp_all [touchAt_of]
  .obtain⟨b',hb',hs',_⟩:=hu.touch op hm x hxa;simp_all
 have hbkn:¬p.sh p.bk:=λe=>Hz h.ok e rfl
 have hfree:(sg i).dt=0->s'.dt≠0->q.h=0:=λe1 e2=>by
  have h1:=hbk'.dt1;have h2:=fp (sg:=sg) (f:=Ph.dt) (s:=s') hin;have h3:=h.bk.h;omega
 obtain⟨k',hk'⟩:∃k',s'.q=true->QuitsD P k' 1 (Gr fr' cs'):=by
  by_cases e:s'.q=true
  .simp_all
  simp_all
 refine⟨k',by simp [h.size],by rw [hE.size];exact h.tr_ops hin hs hu,λj b hb=>?_,λj b hb=>by rw [hE.size];exact h.domZ j b hb,λi1 j1 b h1 h2 hne hb g1 g2=>?_,λi1 j x b h1 h2 hx hb ha hz=>?_,λi1 j x b h1 h2 hx hb hsh=>?_,λj x b hx hb hsh hk=>?_,λe i1 j x h1 h2 hx hb=>?_,λj op hop hc=>?_,λe=>?_,λj hjn hjq=>?_,λj x hx=>?_,hE.at_,hbk',λb hb j=>(hA j b (Hz h.ok hb)).2 (h.shA b hb j),by rw [hE.size];exact h.bkl,h.bkZ,hAk,h.pp' hi (λe=>by cases e),h.ok⟩
 .
  rw [hE.size];by_cases e:b=p.bk
  .rw [e];exact h.bkl
  .exact h.domA j b ((hA j b e).1 hb)
 .
  by_cases e:b=p.bk
  .exfalso;subst e;rw [hAk i1 h1] at g1;rw [hAk j1 h2] at g2;have:=Jr (sg:=upd sg i s') (f:=Ph.dt) h1 h2 hne;have:=hbk'.dt1;omega
  .exact h.cover i1 j1 b h1 h2 hne (by rw [<-hE.size];exact hb) (λx=>g1 ((hA i1 b e).2 x)) λx=>g2 ((hA j1 b e).2 x)
 .
  by_cases hsh:p.sh b
  .exact absurd ((hA i1 b (Hz h.ok hsh)).2 (h.shA b hsh i1)) ha
  .have hxo:=hold hx hb hsh;by_cases e:b=p.bk
   .subst e;rw [hAk i1 h1] at ha;by_cases e1:i1=i
    .subst e1;rw [bC] at ha;by_cases e2:(sg i1).dt=0
     .obtain⟨g1,g2⟩:=hV.acq (by omega) (by have:=hV.dt;omega);subst g1;rw [oC];rcases h.lkf (hfree e2 ha) i1 j x h1 hs hxo hb with g3 |g3
      .exact g3.app _
      .exact g3.acq ⟨rfl,rfl⟩ (hDi.trans g2) h.tr.norel
     .exact(h.knows i1 j x _ h1 hs hxo hb (λy=>e2 ((h.bkA i1 h1).1 y)) (.inr (.inl (h.bkZ i1)))).app _
    .rw [bz e1] at ha;exact(h.knows i1 j x _ h1 (hqq i1 h2) hxo hb (λy=>ha ((h.bkA i1 h1).1 y)) (.inr (.inl (h.bkZ i1)))).app _
   .exact(h.knows i1 j x b h1 (hqq i1 h2) hxo hb (λy=>ha ((hA i1 b e).2 y)) hz).app _
 .
  obtain⟨op,hop,hxa⟩:=touch_of hx;rcases getElem?_append_cases hop with⟨_,hop'⟩ |⟨_,hm⟩
  .exact(h.shk i1 j x b h1 (hqq i1 h2) (by simp_all [touchAt_of]) hb hsh).imp (·.app _) id
  .obtain⟨_,_,_,hwc,hkk⟩:=hu.touch op hm x hxa;grind
 .
  obtain⟨op,hop,hxa⟩:=touch_of hx;rcases getElem?_append_cases hop with⟨_,hop'⟩ |⟨_,hm⟩
  .exact(h.shs j x b (by simp_all [touchAt_of]) hb hsh hk).app _
  .obtain⟨_,_,_,_,hkk⟩:=hu.touch op hm x hxa;rcases hkk with hkk |⟨_,hkk⟩
   .simp_all
   .have:=knows_own hop;rw [hu.num op hm] at this;simp_all
 .
  have hxo:=hold hx hb hbkn;by_cases e0:q.h=0
  .exact(h.lkf e0 i1 j x h1 (hqq i1 h2) hxo hb).imp (·.app _) (·.app _)
  .have h3:=fp (sg:=sg) (f:=Ph.dt) (s:=s') hin;have h4:=h.bk.h;have h5:=hbk'.h;have h6:=h.bk.dt1;have h7:=jZ (sg:=sg) (f:=Ph.dt) hin;have e1:(sg i).dt≠0:=by omega
   have e2:s'.dt=0:=by omega
   obtain⟨g1,g2⟩:=hV.rel (by omega) e2;subst g1;rw [oC];exact .inr (A6 (h.knows i j x _ hin hs hxo hb (λy=>e1 ((h.bkA i hin).1 y)) (.inr (.inl (h.bkZ i)))) ⟨rfl,rfl⟩ (hDi.trans g2))
 .
  rcases getElem?_append_cases hop with⟨hlt,hop'⟩ |⟨hge,hm⟩
  .rcases h.kn j op hop' (hc.old hlt) with h1 |⟨h1,h2,h2'⟩ |h1
   .exact .inl (h1.app _)
   .by_cases e:op.g=i
    .by_cases e1:s'.nr=true
     .refine .inr (.inl ⟨h1,?_,by simp_all [bC]⟩);rw [e,bC];cases hq':s'.q with
      |false=>rfl
      |true=>
       have:=hbk'.ok i hin;rw [bC] at this;rw [this.quit hq'] at e1;cases e1
     .rw [e] at h2';obtain⟨g1,g2⟩:=hV.nr h2' (by simp_all);subst g1;rw [oC];have hko:=knows_own hop';grind [A6]
    simp_all [bz]
   .exact .inr (.inr (h1.app _))
  .have hg:=hu.num op hm;rcases eq_zero_or_pos i with e0 |hp
   .grind [knows_own]
   .have hmn:=hm1 (by omega)
    have htx:∃x,op.act.touch? =some x/\(t++MemOp.ofEvents i fr.fn fr.place es)[j]? =some op:=by
     rcases hc with⟨x,hx,_⟩ |⟨x,b,hx,_⟩
     .grind [touch_of]
     simp_all
    obtain⟨x,hxa,_⟩:=htx;by_cases e1:s'.nr=true
    .refine .inr (.inl ⟨by omega,?_,by simp_all [bC]⟩);rw [hg,bC];cases hq':s'.q with
     |false=>rfl
     |true=>
      have:=hbk'.ok i hin;rw [bC] at this;rw [this.quit hq'] at e1;cases e1
    .exfalso;by_cases e2:(sg i).nr=true
     .obtain⟨g1,_⟩:=hV.nr e2 (by simp_all);simp_all [oC,MemAct.touch?]
     .obtain⟨hcr,hbw⟩:=hV.bw hmn (by simp_all)
      have hop':∃e∈es,op={ g:=i,fn:=fr.fn,pos:=fr.place,act:=.ofEvent e }:=by
       grind [MemOp.ofEvents]
      have hsz:j - t.size < es.size:=by
       grind [lt_size_of_getElem?,size_append,MemOp.ofEvents,size,ofEvents_eq]
      rcases hc with⟨y,hy,_,hcc⟩ |⟨y,b,hy,hyb,hne⟩
      .obtain⟨op2,hop2,hya⟩:=touch_of hy;rw [hop] at hop2;cases hop2;obtain⟨_,_,_,_,hkk⟩:=hu.touch op hm y hya;have hat:y.kind= .atomic:=hkk.elim id λx=>absurd x.2 (by omega);have hh:(t++MemOp.ofEvents i fr.fn fr.place es).heard j:=hcc.elim (λx=>absurd hat x) id;obtain⟨g',hg1,hg2⟩:=hh
       have hgi:g'=i:=by
        simp_all [Trace.g?,Option.map_some,Option.some.injEq]
       subst hgi;have hd:=deaf_inside t g' fr.fn fr.place es (j - t.size) (by omega);have e3:t.size+(j - t.size)=j:=by omega
       rw [e3,hg2,hDi] at hd;have hej:es[j - t.size]? =some es[j - t.size]:=Array.getElem?_eq_getElem hsz
       have hopj:op={ g:=g',fn:=fr.fn,pos:=fr.place,act:=.ofEvent es[j - t.size] }:=by
        grind [Array.getElem?_append_right,ofEvents_eq,Option.some.inj]
       have:=hV.deaf hmn (j - t.size) hsz _ hej (by grind);omega
      .obtain⟨e,he,rfl⟩:=hop'
       have hloc:blk e.loc=some b:=by
        rcases hV.sh e he with⟨l,wr,rfl,hw'⟩ |rfl |rfl |⟨a,rfl⟩ |⟨a,rfl⟩ |⟨h0,_⟩
        .obtain⟨b',hb',_⟩:=uq hw';cases l with
         |cell a=>grind [MemAct.ofEvent,MemAct.touch?]
         |obj c=>cases wr <;> simp [MemAct.ofEvent,MemAct.touch?] at hy;grind
         |_=>cases hb'
        .grind [MemAct.ofEvent,iR,MemAct.touch?]
        .grind [MemAct.ofEvent,iR,MemAct.touch?]
        .grind [MemAct.ofEvent,iR,MemAct.touch?]
        .grind [MemAct.ofEvent,iR,MemAct.touch?]
        simp_all
       have hbb:=hbw e he b hloc;rcases hne with hne |hne
       .exact(h.ok.wm hcr).1 (hbb.symm.trans hne)
       .exact(h.ok.wm hcr).2.1 (hbb.symm.trans hne)
 .
  by_cases e0:i=0
  .subst e0;rw [bC] at e⊢;obtain⟨j1,j2⟩:=hV.jn e;refine⟨j1,λj op hop hc=>?_⟩;rcases getElem?_append_cases hop with⟨hlt,hop'⟩ |⟨_,hm⟩
   .rcases j2 with j2 |⟨j2,j3,j4⟩
    .exact((h.jn j2).2 j op hop' (hc.old hlt)).app _
    .subst j2;rw [oC];rcases h.kn j op hop' (hc.old hlt) with h1 |⟨h1,h2,_⟩ |h1
     .exact h1.app _
     .have:=h.bk.gone j4 op.g h1 (h.tr.num op (mem_of_getElem? hop'));simp_all
     .exact h1.acq ⟨rfl,rfl⟩ (hDi.trans j3) h.tr.norel
   .have:=knows_own hop;rwa [hu.num op hm] at this
  .rw [bz (λe'=>e0 e'.symm)] at e;have:=h.bk.gone (h.jn e).1 i (by omega) hin;simp_all
 .
  by_cases e:j=i
  .simp_all [bC,if_neg]
  .rw [bz e] at hjq⊢;rw [hoth j e];exact h.deaf j hjn hjq
 .
  rcases li hi hx with⟨rfl,rfl⟩ |⟨hne,y,hy,rfl⟩
  .rw [bC,bC,bC,bC,hown];refine⟨λe=>?_,λe=>.run (hw e)⟩;simp_all
  .have hs':=h.sts j y hy;rw [bz hne,bz hne,bz hne,bz hne,hoth j hne];refine⟨λe=>?_,λe=>?_⟩
   .rw [woken_quitsD (hs'.1 e)];exact hs'.1 e
   .refine(hs'.2 e).pas (hE.rely λb hb=>h.shA b hb j) (λhb=>?_) hcl (λhm ho=>?_) (λhc=>⟨q'.cs,hE.at_.ch hc⟩) λe=>⟨hwk (.inr (.inr e)),rfl⟩
    .rcases hb with⟨h1,h2⟩ |⟨h1,h2⟩
     .rcases eq_zero_or_pos q'.T with h3 |h3
      .exact .inl (.inl ⟨h1,h3⟩)
      simp_all
     .rcases eq_zero_or_pos q'.sm with h3 |h3
      .exact .inl (.inr ⟨h1,h3⟩)
      simp_all
    .have hj0:j=0:=by simp_all
     exact hbk'.op (by simp_all [bz])
end
theorem vO.many{n z:Nat}:∀{u:List MemOp} {t:Trace},vO n z t->(∀op∈u,op.g < n/\op.act.touch? =none/\∀m,op.act≠.mark m)->vO n z (t++u.toArray)
 |[],t,h,_=>by simp_all
 |o::u,t,h,hu=>by
  have e:t++(o::u).toArray=(t++ #[o])++u.toArray:=by simp_all
  rw [e]
  obtain⟨h1,h2,h3⟩:=hu o (by simp)
  exact vO.many (h.words h1 (λop ho=>by simp_all) (λop ho=>by simp_all) λop ho a ea=>by simp_all) λop ho=>hu op (by simp [ho])
theorem xH{g:Nat}:∀{u:List MemOp} {t:Trace},(∀op∈u,∀m,op.act≠.mark m)->Deaf (t++u.toArray) g=Deaf t g
 |[],t,_=>by simp
 |o::u,t,hu=>by
  have e:t++(o::u).toArray=(t++ #[o])++u.toArray:=by simp_all
  rw [e,xH λop ho=>hu op (by simp [ho]),Deaf_push]
  have:=hu o (by simp)
  unfold deafStep
  split
  .
   simp_all
  .
   simp_all
  .
   rfl
section
variable {P:Program}{p:Gp}{T:Tq}{n:Nat}{sg sg':Nat->Ph}{rk rk':Nat->Rk}{k:Nat->Nat}{A Z:Nat->Nat->Prop}{q q':dV}{gs gs':Array Goroutine}{w w':World}{t:Trace}
theorem Bk.phn(h:Bk p n sg q){c:Nat}(hs:∀i,sg' i={ sg i with phi:=(sg' i).phi,nw:=(sg' i).nw })(hp:al n sg' Ph.phi≤al n sg Ph.phi)(hn:q.cl=false->al n sg' Ph.nw=al n sg Ph.nw)(h0:(sg' 0).nw=0)(hqt:∀i,(sg i).q=true->sg' i=sg i):Bk p n sg' { q with cs:=c }:=by
 have e:∀f:Ph->Nat,(∀i,f (sg' i)=f (sg i))->al n sg' f=al n sg f:=λf hf=>by
  unfold al;grind
 have e1:=e Ph.ac λi=>by rw [hs i]
 have e2:=e Ph.w1 λi=>by rw [hs i]
 have e3:=e Ph.w2 λi=>by rw [hs i]
 have e4:=e Ph.hd λi=>by rw [hs i]
 have e5:=e Ph.aw λi=>by rw [hs i]
 have e6:=e Ph.rn λi=>by rw [hs i]
 have e7:=e Ph.tk λi=>by rw [hs i]
 have e8:=e Ph.qu λi=>by rw [hs i]
 have e9:=e Ph.rh λi=>by rw [hs i]
 have e10:=e Ph.ty λi=>by rw [hs i]
 have e11:=e Ph.dt λi=>by rw [hs i]
 have e12:=e Ph.lv λi=>by rw [hs i]
 have z:=hs 0;have z1:(sg' 0).pd=(sg 0).pd:=by rw [z]
 have z2:(sg' 0).rg=(sg 0).rg:=by rw [z]
 have z3:(sg' 0).op=(sg 0).op:=by rw [z]
 have z4:(sg' 0).sp=(sg 0).sp:=by rw [z]
 have z5:(sg' 0).cb=(sg 0).cb:=by rw [z]
 have z6:(sg' 0).al=(sg 0).al:=by rw [z]
 have z7:(sg' 0).cd=(sg 0).cd:=by rw [z]
 refine⟨by rw [e1,z1];exact h.c,by rw [z2,e2,e3];exact h.un,by rw [z2,z1,e2,e3];exact h.re,by rw [z1];exact h.pd,by rw [z2,z7];exact h.rgc,by rw [z3];exact h.op,λe'=>by rw [z4,hn e'];exact h.nw e',h.le,by rw [e4];exact h.hd,by rw [e5,e6,e7,e8,e9,e10];exact h.s0,by rw [e5,e6,e7,e8,e9];exact h.s1,by rw [e11];exact h.h,?_,λi ow φ hi he=>h.se i ow φ hi ?_,λi hi=>?_,by rw [e12,z4];exact h.lv,λi hi=>?_,h.n0,by rw [z5];exact h.cb,λha i hi hin=>?_⟩
 .have:=h.f;grind
 .grind
 .rw [hs i];exact h.nb i hi
 .have ho:=h.ok i hi;by_cases hq:(sg i).q=true
  .grind
  .have hf:(sg i).q=false:=by grind
   have hqi:(sg' i).q=(sg i).q:=by rw [hs i]
   refine⟨by rw [hs i];exact ho.one,by rw [hs i];exact ho.rg,by rw [hs i];exact ho.lv,λx=>absurd (hqi▸x) hq,by rw [hs i];exact ho.dt,λx=>?_,by rw [hs i];exact ho.work⟩;have hm:=ho.main x;grind
 .rw [z6] at ha;rw [hs i];exact h.gone ha i hi hin
theorem CW.comm(h:CW P p T n sg rk k A Z q gs w t){u:List MemOp}(hu:∀op∈u,op.g < n/\op.act.touch? =none/\∀m,op.act≠.mark m)(hsz:gs'.size=n)(hs:∀i,sg' i={ sg i with phi:=(sg' i).phi,nw:=(sg' i).nw })(hw:w'.heap.size=w.heap.size)(hat:p.At w' q')(hbk:Bk p n sg' q')(hh:q'.h=q.h)
 (hst:∀i g,gs'[i]? =some g->SU P p T (i == 0) ⟨w',A i,Z i⟩ (rk' i) (k i) (Deaf t i) (sg' i) q' g)
 (hpp:∀g,gs'[0]? =some g->(∃fr cs x z,g=parked (Gr fr cs) #[scase p.bc x z] .send)->∀i g',0 < i->gs'[i]? =some g'->¬∃fr cs z,g'=parked (Gr fr cs) #[rcase p.bc z] (.recv true)):
 CW P p T n sg' rk' k A Z q' gs' w' (t++u.toArray):=by
 have ht:∀op∈u.toArray,op.act.touch? =none:=λop ho=>(hu op (by grind)).2.1
 have hD:∀g,Deaf (t++u.toArray) g=Deaf t g:=λg=>xH λop ho=>(hu op ho).2.2
 have hq:∀i,(sg' i).q=(sg i).q:=λi=>by rw [hs i]
 have hnc:∀{j:Nat} {op:MemOp},op∈u.toArray->(t++u.toArray)[j]? =some op->¬Oq p (t++u.toArray) j op:=λ{j op} hm hop hc=>by
  rcases hc with⟨x,hx,_⟩ |⟨x,b,hx,_⟩
  .grind [touch_of]
  grind
 refine⟨hsz,by rw [hw];exact h.tr.many hu,λi b hb=>by rw [hw];exact h.domA i b hb,λi b hb=>by rw [hw];exact h.domZ i b hb,λi j b h1 h2 h3 hb=>h.cover i j b h1 h2 h3 (by omega),λi1 j x b h1 h2 hx hb ha hz=>(h.knows i1 j x b h1 ((hq i1).symm.trans h2) (de ht hx).2 hb ha hz).app _,λi1 j x b h1 h2 hx hb hs'=>(h.shk i1 j x b h1 ((hq i1).symm.trans h2) (de ht hx).2 hb hs').imp (·.app _) id,
  λj x b hx hb hs' hk=>(h.shs j x b (de ht hx).2 hb hs' hk).app _,λe i1 j x h1 h2 hx hb=>(h.lkf (hh.symm.trans e) i1 j x h1 ((hq i1).symm.trans h2) (de ht hx).2 hb).imp (·.app _) (·.app _),λj op hop hc=>?_,λe=>?_,λi hi hqi=>?_,λi g hg=>by grind,hat,hbk,h.shA,by rw [hw];exact h.bkl,h.bkZ,λi hi=>?_,hpp,h.ok⟩
 .
  rcases getElem?_append_cases hop with⟨hlt,hop'⟩ |⟨_,hm⟩
  .rw [hs op.g];exact(h.kn j op hop' (hc.old hlt)).imp (·.app _) (.imp id (·.app _))
  grind
 .
  rw [hs 0] at e⊢;refine⟨(h.jn e).1,λj op hop hc=>?_⟩;rcases getElem?_append_cases hop with⟨hlt,hop'⟩ |⟨_,hm⟩
  .exact((h.jn e).2 j op hop' (hc.old hlt)).app _
  grind
 .
  rw [hD];rw [hs i] at hqi⊢;exact h.deaf i hi hqi
 .
  rw [hs i];exact h.bkA i hi
theorem CW.stay(h:CW P p T n sg rk k A Z q gs w t){i:Nat}{g:Goroutine}(hg:gs[i]? =some g)(hr:bu ⟨w,A i,Z i⟩ ⟨w',A i,Z i⟩)(hqs:q'={ q with cs:=q'.cs })(hch:p.cr=true->∃n,w'.heap[p.bc]? =some (.chan 0 #[] q'.cl n n false)):SU P p T (i == 0) ⟨w',A i,Z i⟩ (rk i) (k i) (Deaf t i) (sg i) q' g:=by
 have hs:=h.sts i g hg;refine⟨hs.1,λe=>?_⟩;have:=(hs.2 e).pas (q':=q') (g:=Gr default []) (g':={ Gr default [] with status:=.blocked }) (w':=w') hr (λhb=>.inl (by rw [hqs];exact hb)) (λe=>by grind) (λhm ho=>by rw [hqs];exact h.bk.op (by grind)) hch λe=>absurd (by rw [hqs]) e;rwa [show Conc.woken P (Gr default []) { Gr default [] with status:=.blocked } w' g=g by unfold Conc.woken;grind] at this
theorem CW.sender(h:CW P p T n sg rk k A Z q gs w t){i j kk:Nat}(hm:(j,kk)∈partners (gs.setIfInBounds i ph) p.bc true):kk=0/\j≠i/\j=0/\∃fr cs x z,gs[j]? =some (parked (Gr fr cs) #[scase p.bc x z] .send)/\Kq P p (yz P p T (rk 0)) true (sg 0) ⟨w,A 0,Z 0⟩ fr cs x z:=by
 rw [partners_eq] at hm;obtain⟨⟨g,j'⟩,h1,h2⟩:=List.mem_flatMap.1 hm;obtain⟨kk',h3,h4⟩:=List.mem_map.1 h2;cases h4;have hg:=Array.mem_zipIdx_iff_getElem?.1 (mem_toList_iff.1 h1);have hg:(gs.setIfInBounds i ph)[j]? =some g:=by omega
 rcases getElem?_stand gs i j g hg with⟨_,rfl⟩ |⟨hji,hg⟩
 .grind [offersAt_ph]
 .have hs:=h.sts j g hg;cases hq:(sg j).q with
  |true=>
   rw [offersAt_of_not_blocked (by rcases(hs.1 hq).status with h |h <;> rw [h] <;> simp)] at h3;cases h3
  |false=>
   cases hs.2 hq with
   |run h=>simp_all [offersAt_of_not_blocked]
   |blk hb h=>cases h3
   |rcv hc hz=>simp_all [offersAt_parked_recv']
   |rcd hc hz=>simp_all [offersAt_of_not_blocked]
   | @snd fr cs x z hz=>
    have hj0:j=0:=by simpa using hz.2.1
    subst hj0;rw [offersAt_parked_send,if_pos rfl] at h3;grind
theorem CW.receiver(h:CW P p T n sg rk k A Z q gs w t){i j kk:Nat}(hm:(j,kk)∈partners (gs.setIfInBounds i ph) p.bc false):kk=0/\j≠i/\0 < j/\∃fr cs z,gs[j]? =some (parked (Gr fr cs) #[rcase p.bc z] (.recv true))/\(sg j).q=false/\Gq P p (yz P p T (rk j)) false (sg j) ⟨w,A j,Z j⟩ fr cs z:=by
 rw [partners_eq] at hm;obtain⟨⟨g,j'⟩,h1,h2⟩:=List.mem_flatMap.1 hm;obtain⟨kk',h3,h4⟩:=List.mem_map.1 h2;cases h4;have hg:=Array.mem_zipIdx_iff_getElem?.1 (mem_toList_iff.1 h1);have hg:(gs.setIfInBounds i ph)[j]? =some g:=by omega
 rcases getElem?_stand gs i j g hg with⟨_,rfl⟩ |⟨hji,hg⟩
 .grind [offersAt_ph]
 .have hs:=h.sts j g hg;cases hq:(sg j).q with
  |true=>
   rw [offersAt_of_not_blocked (by rcases(hs.1 hq).status with h |h <;> rw [h] <;> simp)] at h3;cases h3
  |false=>
   cases hs.2 hq with
   |run h=>simp_all [offersAt_of_not_blocked]
   |blk hb h=>cases h3
   | @rcv fr cs z hc hz=>
    have hmn:=hz.2.1;rw [offersAt_parked_recv,if_pos rfl] at h3;grind
   |rcd hc hz=>simp_all [offersAt_of_not_blocked]
   |snd hz=>simp_all [offersAt_parked_send']
end
section
variable {P:Program}{p:Gp}{T:Tq}{n:Nat}{sg:Nat->Ph}{rk:Nat->Rk}{k:Nat->Nat}{A Z:Nat->Nat->Prop}{q:dV}{gs gs':Array Goroutine}{w:World}{t:Trace}{sl:Option (Nat×Nat)}
theorem wP{c i:Nat}{b:Bool}(h:partners (gs.setIfInBounds i ph) c b=[]){j:Nat}{g:Goroutine}(hj:j≠i)(hg:gs[j]? =some g):offersAt g c b=[]:=by
 rw [partners_eq] at h;have hm:(g,j)∈(gs.setIfInBounds i ph).zipIdx.toList:=mem_toList_iff.2 (Array.mem_zipIdx_iff_getElem?.2 (by grind));cases ho:offersAt g c b with
 |nil=>rfl
 |cons x l=>
  exfalso;have:(j,x)∈(gs.setIfInBounds i ph).zipIdx.toList.flatMap λ(h,i)=>(offersAt h c b).map λk=>(i,k):=List.mem_flatMap.2 ⟨_,hm,List.mem_map.2 ⟨x,by simp [ho],rfl⟩⟩;grind
theorem F5{c s:Nat}{A0 Z0:Nat->Prop}(ha:A0 c)(d:Nat):bu ⟨w,A0,Z0⟩ ⟨(w.at d).setChan c 0 #[] false s s false,A0,Z0⟩ where
 keep b _ hb:=by
  grind [World.setChan,World.at,getElem?_setIfInBounds_ne]
 size:=by simp [World.setChan,World.at]
 sub _ h:=h
 old _ h:=.inl h
 dom hd b hb:=by simp_all [World.setChan,World.at]
 Z:=rfl
 os:=.refl _
 tape:=rfl
 output:=rfl
theorem M4{d:Nat}(hok:p.Ok)(hcr:p.cr=true)(h:p.At w q)(hc:q.cl=false):p.At ((w.at d).setChan p.bc 0 #[] false (q.cs+1) (q.cs+1) false) { q with cs:=q.cs+1 }:=by
 have hlt:=(Array.getElem?_eq_some_iff.1 (h.ch hcr)).1
 have he:∀b,b≠p.bc->((w.at d).setChan p.bc 0 #[] false (q.cs+1) (q.cs+1) false).heap[b]? =w.heap[b]? :=λb hb=>by
  simp [World.setChan,World.at,getElem?_setIfInBounds_ne (Ne.symm hb)]
 refine⟨λ_=>(he _ (hok.wm hcr).2.2).trans (h.wg hcr),λ_=>?_,(he _ (hok.cm hcr).1.symm).trans h.mu,λe=>by rw [he _ (hok.cm hcr).2.symm];exact h.mp e⟩;show(w.heap.setIfInBounds p.bc _)[p.bc]? =_;simp_all
theorem CW.hand(h:CW P p T n sg rk k A Z q gs w t)(hlp:Gs P p T){j d:Nat}{fr0 fr1:Frame}{cs0 cs1:List Frame}{x z0 z1:Value}{u:List MemOp}(hj:0 < j)(hjn:j < n)(h0:Kq P p (yz P p T (rk 0)) true (sg 0) ⟨w,A 0,Z 0⟩ fr0 cs0 x z0)(h1:Gq P p (yz P p T (rk j)) false (sg j) ⟨w,A j,Z j⟩ fr1 cs1 z1)
 (hu:∀op∈u,op.g < n/\op.act.touch? =none/\∀m,op.act≠.mark m) (hsz:gs'.size=n) (g0:gs'[0]? =some (Gr (fr0.finish undef) cs0)) (g1:gs'[j]? =some (Gr (fr1.finish (.tuple #[x,.bool true])) cs1)) (g2:∀i,i≠0->i≠j->gs'[i]? =gs[i]?):
 ∃r0 r1,Rk.lt r0 (rk 0)/\CW P p T n (upd (upd sg j { sg j with phi:=(sg j).phi+12 }) 0 { sg 0 with phi:=(sg 0).phi - 12 }) (upd (upd rk j r1) 0 r0) k A Z { q with cs:=q.cs+1 } gs' ((w.at d).setChan p.bc 0 #[] false (q.cs+1) (q.cs+1) false) (t++u.toArray):=by
 obtain⟨hcr,_,hop,hsp,hphi,hq0,_,_,hx,_,hk0⟩:=h0
 obtain⟨_,_,hnw,hq1,_,_,_,hk1,_⟩:=h1
 have hcl:=h.bk.op hop
 have hne:j≠0:=by omega
 have hr:∀i,bu ⟨w,A i,Z i⟩ ⟨(w.at d).setChan p.bc 0 #[] false (q.cs+1) (q.cs+1) false,A i,Z i⟩:=λi=>F5 (h.shA _ (.inr ⟨hcr,.inr rfl⟩) i) d
 obtain⟨_,_,_,hf0⟩:=hk0 _ (hr 0)
 obtain⟨r0,hl0,hw0⟩:=ti hf0
 obtain⟨hs1,hf1⟩:=hk1 _ x (hr j) hx
 obtain⟨r1,hw1⟩:=hlp _ _ _ _ _ hf1 hx
 rw [<-(show({ sg j with phi:=(sg j).phi+12 }:Ph)={ ac:=1,nw:=1,phi:=(sg j).phi+12 } from congrArg (λs:Ph=>{ s with phi:=(sg j).phi+12 }) hs1)] at hw1
 have hat:=M4 (d:=d) h.ok hcr h.at_ hcl
 have e0:∀{α:Type} (f:Nat->α) (a b:α),upd (upd f j a) 0 b 0=b:=λf a b=>bC
 have e1:∀{α:Type} (f:Nat->α) (a b:α),upd (upd f j a) 0 b j=a:=λf a b=>by rw [bz hne,bC]
 have e2:∀{α:Type} (f:Nat->α) (a b:α) (i:Nat),i≠0->i≠j->upd (upd f j a) 0 b i=f i:=λf a b i h1 h2=>by grind [bz]
 have hs:∀i,upd (upd sg j { sg j with phi:=(sg j).phi+12 }) 0 { sg 0 with phi:=(sg 0).phi - 12 } i={ sg i with phi:=(upd (upd sg j { sg j with phi:=(sg j).phi+12 }) 0 { sg 0 with phi:=(sg 0).phi - 12 } i).phi,nw:=(upd (upd sg j { sg j with phi:=(sg j).phi+12 }) 0 { sg 0 with phi:=(sg 0).phi - 12 } i).nw }:=λi=>by
  by_cases a:i=0
  .grind
  .by_cases b:i=j
   .grind
   .rw [e2 _ _ _ i a b]
 have hal:∀f:Ph->Nat,al n (upd (upd sg j { sg j with phi:=(sg j).phi+12 }) 0 { sg 0 with phi:=(sg 0).phi - 12 }) f+f (sg 0)+f (sg j)=al n sg f+f { sg j with phi:=(sg j).phi+12 }+f { sg 0 with phi:=(sg 0).phi - 12 }:=λf=>by
  grind [fp,upd,bz]
 refine⟨r0,r1,hl0,h.comm hu hsz hs (by simp [World.setChan,World.at]) hat (h.bk.phn hs ?_ (λ_=>?_) ?_ λi hi=>?_) rfl (λi g hg=>?_) λg hg hgp=>?_⟩
 .
  grind
 .
  grind
 .
  rw [e0];exact((h.bk.ok 0 h.bk.n0).main rfl).2.2.2.1
 .
  grind
 .
  by_cases a:i=0
  .subst a;rw [g0] at hg;cases hg;rw [e0,e0];exact⟨λe=>(by grind),λ_=>.run hw0⟩
  .by_cases b:i=j
   .subst b;rw [g1] at hg;cases hg;rw [e1,e1];refine⟨λe=>(by grind),λ_=>.run ?_⟩;grind
   .rw [g2 i a b] at hg;rw [e2 _ _ _ i a b,e2 _ _ _ i a b];exact h.stay hg (hr i) rfl λhc=>⟨_,hat.ch hc⟩
 .
  rw [g0] at hg;cases hg;obtain⟨_,_,_,_,e⟩:=hgp;cases e
theorem CW.closed(h:CW P p T n sg rk k A Z q gs w t){i:Nat}{g:Goroutine}{fr:Frame}{cs:List Frame}{z:Value}(hi:gs[i]? =some g)(hst:stepG P (i == 0) g w= .comm (Gr fr cs) #[rcase p.bc z] true (.recv true) w #[])(hgf:g.frame=fr)(hcl:q.cl=true)(h1:Gq P p (yz P p T (rk i)) (i == 0) (sg i) ⟨w,A i,Z i⟩ fr cs z):
 ∃r1 gs' ops,Rk.lt r1 (rk i)/\runT P (crowd gs w sl) i=(.next (crowd gs' w sl),ops)/\CW P p T n (upd sg i { sg i with nw:=0 }) (upd rk i r1) k A Z q gs' w (t++ops)/\(∀j,j≠i->gs'[j]? =gs[j]?)/\0 < i:=by
 obtain⟨hcr,hmn,hnw,hq1,_,_,_,_,hk1⟩:=h1
 have hi0:i≠0:=by simp_all
 have hin:=h.lt hi
 obtain⟨_,_,_,hf1⟩:=hk1 _ (bu.refl _)
 obtain⟨r1,hl1,hw1⟩:=ti hf1
 have hch:=h.at_.ch hcr
 rw [hcl] at hch
 have hp:partners (gs.setIfInBounds i ph) p.bc true=[]:=by
  cases hp:partners (gs.setIfInBounds i ph) p.bc true with
  |nil=>rfl
  |cons x l=>
   obtain⟨j,kk⟩:=x;obtain⟨_,_,_,_,_,_,_,_,hs⟩:=h.sender (i:=i) (j:=j) (kk:=kk) (by simp_all);have:=h.bk.op hs.2.2.1;simp_all
 have hgo:=crowd_recv_closed (sl:=sl) hi hst hch hp
 have hs:∀j,upd sg i { sg i with nw:=0 } j={ sg j with phi:=(upd sg i { sg i with nw:=0 } j).phi,nw:=(upd sg i { sg i with nw:=0 } j).nw }:=λj=>by
  by_cases b:j=i
  .grind [bC]
  .rw [bz b]
 have hg':∀j,j≠i->(gs.setIfInBounds i ((Gr fr cs).finishComm P #[rcase p.bc z] (.recv true) 0 z false))[j]? =gs[j]? :=λj hj=>getElem?_setIfInBounds_ne (λe=>hj e.symm)
 refine⟨r1,_,_,hl1,hgo,?_,hg',by omega⟩
 have e1:MemOp.ofEvents i g.frame.fn g.frame.place #[]++ #[{ g:=i,fn:=fr.fn,pos:=fr.place,act:=.recvClosed p.bc }]=[({ g:=i,fn:=fr.fn,pos:=fr.place,act:=.recvClosed p.bc }:MemOp)].toArray:=by simp [MemOp.ofEvents]
 rw [e1]
 refine h.comm (λop ho=>?_) (by simp [h.size]) hs rfl h.at_ (h.bk.phn (c:=q.cs) hs ?_ (λe=>by simp_all) ?_ λj hj=>?_) rfl (λj x hx=>?_) λx hx hgp i1 x1 hp1 hx1 hr1=>?_
 .
  simp at ho;subst ho;exact⟨hin,rfl,λm e=>by cases e⟩
 .
  have a1:=fp (sg:=sg) (f:=Ph.phi) (s:={ sg i with nw:=0 }) hin;simp_all
 .
  rw [bz (λe=>hi0 e.symm)];exact((h.bk.ok 0 h.bk.n0).main rfl).2.2.2.1
 .
  by_cases b:j=i
  .simp_all
  .rw [bz b]
 .
  by_cases b:j=i
  .subst b;rw [getElem?_setIfInBounds_self_of_lt (by grind)] at hx;cases hx;rw [bC,bC];exact⟨λe=>(by simp_all),λ_=>.run hw1⟩
  .rw [hg' j b] at hx;rw [bz b,bz b];exact h.sts j x hx
 .
  rw [hg' 0 (λe=>hi0 e.symm)] at hx;by_cases b:i1=i
  .subst b;rw [getElem?_setIfInBounds_self_of_lt (by grind)] at hx1;cases hx1;obtain⟨_,_,_,e⟩:=hr1;cases e
  .rw [hg' i1 b] at hx1;exact h.pp x hx hgp i1 x1 hp1 hx1 hr1
theorem CW.parkR(h:CW P p T n sg rk k A Z q gs w t){i:Nat}{g:Goroutine}{fr:Frame}{cs:List Frame}{z:Value}(hi:gs[i]? =some g)(hst:stepG P (i == 0) g w= .comm (Gr fr cs) #[rcase p.bc z] true (.recv true) w #[])(hcl:q.cl=false)(h1:Gq P p (yz P p T (rk i)) (i == 0) (sg i) ⟨w,A i,Z i⟩ fr cs z)
 (hp:partners (gs.setIfInBounds i ph) p.bc true=[]):
 runT P (crowd gs w sl) i=(.next (crowd (gs.setIfInBounds i (parked (Gr fr cs) #[rcase p.bc z] (.recv true))) w sl), #[])/\CW P p T n sg rk k A Z q (gs.setIfInBounds i (parked (Gr fr cs) #[rcase p.bc z] (.recv true))) w t/\0 < i:=by
 have hcr:=h1.1
 have hmn:=h1.2.1
 have hi0:i≠0:=by simp_all
 have hin:=h.lt hi
 have hch:=h.at_.ch hcr
 rw [hcl] at hch
 have hgo:=crowd_waits (sl:=sl) hi hst λcc hcc=>by
  grind [rcase,ways_recv_none]
 rw [ofEvents_none] at hgo
 have hg':∀j,j≠i->(gs.setIfInBounds i (parked (Gr fr cs) #[rcase p.bc z] (.recv true)))[j]? =gs[j]? :=λj hj=>getElem?_setIfInBounds_ne (λe=>hj e.symm)
 refine⟨hgo,?_,by omega⟩
 have:=h.comm (gs':=gs.setIfInBounds i (parked (Gr fr cs) #[rcase p.bc z] (.recv true))) (u:=[]) (λop ho=>by simp at ho) (by simp [h.size]) (sg':=sg) (λ_=>rfl) rfl h.at_ h.bk rfl (rk':=rk) (λj x hx=>?_) λx hx hgp i1 x1 hp1 hx1 hr1=>?_
 .
  simp_all
 .
  by_cases b:j=i
  .subst b;rw [getElem?_setIfInBounds_self_of_lt (by grind)] at hx;cases hx;exact⟨λe=>(by rw [h1.2.2.2.1] at e;cases e),λ_=>.rcv hcl h1⟩
  .rw [hg' j b] at hx;exact h.sts j x hx
 .
  rw [hg' 0 (λe=>hi0 e.symm)] at hx;obtain⟨f0,c0,x0,z0,rfl⟩:=hgp;have:=wP hp (λe=>hi0 e.symm) hx;simp_all [offersAt_parked_send,if_pos]
theorem CW.parkS(h:CW P p T n sg rk k A Z q gs w t){i:Nat}{g:Goroutine}{fr:Frame}{cs:List Frame}{x z:Value}(hi:gs[i]? =some g)(hst:stepG P (i == 0) g w= .comm (Gr fr cs) #[scase p.bc x z] true .send w #[])(h1:Kq P p (yz P p T (rk i)) (i == 0) (sg i) ⟨w,A i,Z i⟩ fr cs x z)
 (hp:partners (gs.setIfInBounds i ph) p.bc false=[]):
 runT P (crowd gs w sl) i=(.next (crowd (gs.setIfInBounds i (parked (Gr fr cs) #[scase p.bc x z] .send)) w sl), #[])/\CW P p T n sg rk k A Z q (gs.setIfInBounds i (parked (Gr fr cs) #[scase p.bc x z] .send)) w t/\i=0:=by
 have hcr:=h1.1
 have hmn:=h1.2.1
 have hi0:i=0:=by simp_all
 have hin:=h.lt hi
 have hch:=h.at_.ch hcr
 have hcl:q.cl=false:=h.bk.op (by have:=h1.2.2.1;simp_all)
 rw [hcl] at hch
 have hgo:=crowd_waits (sl:=sl) hi hst λcc hcc=>by
  have:cc=scase p.bc x z:=by simp_all
  subst this;exact ways_send_none hch (zero_le _) hp
 rw [ofEvents_none] at hgo
 have hg':∀j,j≠i->(gs.setIfInBounds i (parked (Gr fr cs) #[scase p.bc x z] .send))[j]? =gs[j]? :=λj hj=>getElem?_setIfInBounds_ne (λe=>hj e.symm)
 refine⟨hgo,?_,hi0⟩
 have:=h.comm (gs':=gs.setIfInBounds i (parked (Gr fr cs) #[scase p.bc x z] .send)) (u:=[]) (λop ho=>by simp at ho) (by simp [h.size]) (sg':=sg) (λ_=>rfl) rfl h.at_ h.bk rfl (rk':=rk) (λj x' hx=>?_) λx' hx hgp i1 x1 hp1 hx1 hr1=>?_
 .
  simp_all
 .
  by_cases b:j=i
  .subst b;rw [getElem?_setIfInBounds_self_of_lt (by grind)] at hx;cases hx;exact⟨λe=>(by rw [h1.2.2.2.2.2.1] at e;cases e),λ_=>.snd h1⟩
  .rw [hg' j b] at hx;exact h.sts j x' hx
 .
  rw [hg' i1 (by omega)] at hx1;obtain⟨f0,c0,z0,rfl⟩:=hr1;have:=wP hp (by omega) hx1;simp_all [offersAt_parked_recv,if_pos]
theorem Ef{a b c s r cap:Nat}{f1 f2 f3 f4:FuncId}{p1 p2 p3 p4:String}(ha:a < n)(hb:b < n):∀op∈[({ g:=a,fn:=f1,pos:=p1,act:=.send c s }:MemOp),{ g:=b,fn:=f2,pos:=p2,act:=.recv c r cap },{ g:=a,fn:=f3,pos:=p3,act:=.sendDone c s },{ g:=b,fn:=f4,pos:=p4,act:=.recvDone c r }],op.g < n/\op.act.touch? =none/\∀m,op.act≠.mark m:=by
 intro op ho;simp at ho;rcases ho with rfl |rfl |rfl |rfl
 .exact⟨ha,rfl,λm e=>by cases e⟩
 .exact⟨hb,rfl,λm e=>by cases e⟩
 .exact⟨ha,rfl,λm e=>by cases e⟩
 .exact⟨hb,rfl,λm e=>by cases e⟩
theorem CW.recv(h:CW P p T n sg rk k A Z q gs w t)(hlp:Gs P p T){i:Nat}{g:Goroutine}{fr:Frame}{cs:List Frame}{z:Value}(hi:gs[i]? =some g)(hst:stepG P (i == 0) g w= .comm (Gr fr cs) #[rcase p.bc z] true (.recv true) w #[])(hcl:q.cl=false)(h1:Gq P p (yz P p T (rk i)) (i == 0) (sg i) ⟨w,A i,Z i⟩ fr cs z)
 (hp:partners (gs.setIfInBounds i ph) p.bc true≠[]):
 ∃sg' rk' q' gs' w' ops,Rk.lt (rk' 0) (rk 0)/\runT P (crowd gs w sl) i=(.next (crowd gs' w' sl),ops)/\CW P p T n sg' rk' k A Z q' gs' w' (t++ops):=by
 have hcr:=h1.1
 have hmn:=h1.2.1
 have hi0:i≠0:=by simp_all
 have hin:=h.lt hi
 have hch:=h.at_.ch hcr
 rw [hcl] at hch
 obtain⟨j,gj,vj,zj,shj,d,e1,e2,e3⟩:=crowd_recv_meets_some (sl:=sl) hi hst hch hp λj kk hm=>by
  obtain⟨a,b,c,f0,c0,x0,z0,e,_⟩:=h.sender hm;grind
 obtain⟨x,l,hpx⟩:∃x l,partners (gs.setIfInBounds i ph) p.bc true=x::l:=by
  cases hx:partners (gs.setIfInBounds i ph) p.bc true with
  |nil=>simp_all
  |cons x l=>simp_all
 obtain⟨j',kk⟩:=x
 obtain⟨_,_,hj'0,f0,c0,x0,z0,ej,hs0⟩:=h.sender (i:=i) (j:=j') (kk:=kk) (by simp_all)
 subst hj'0
 have hj0:j=0:=by
  have hb:(parked gj #[scase p.bc vj zj] shj).status= .blocked:=rfl;have hs:=h.sts j _ e2
  have hmem:(j,0)∈partners (gs.setIfInBounds i ph) p.bc true:=by
   rw [partners_eq];exact List.mem_flatMap.2 ⟨(_,j),mem_toList_iff.2 (Array.mem_zipIdx_iff_getElem?.2 (by simpa using stand_get e1 e2)),List.mem_map.2 ⟨0,by simp [offersAt_parked_send],rfl⟩⟩
  exact(h.sender hmem).2.2.1
 subst hj0
 rw [ej] at e2
 have e2':=Option.some.inj e2
 have q1:gj={ Gr f0 c0 with status:=gj.status,offers:=gj.offers }:=by
  have:=congrArg (λg:Goroutine=>(g.frame,g.callers,g.dying)) e2';simp_all [parked,Prod.mk.injEq]
 have q2:x0=vj/\shj= .send:=by
  have:=congrArg Goroutine.offers e2';simp only [parked,scase,Option.some.injEq,Prod.mk.injEq] at this;grind
 obtain⟨rfl,rfl⟩:=q2
 have hmn1:Gq P p (yz P p T (rk i)) false (sg i) ⟨w,A i,Z i⟩ fr cs z:=by grind
 have hfin0:gj.finishComm P #[scase p.bc x0 zj] .send 0 undef false=Gr (f0.finish undef) c0:=by rw [q1];rfl
 have hfin1:(Gr fr cs).finishComm P #[rcase p.bc z] (.recv true) 0 x0 true=Gr (fr.finish (.tuple #[x0,.bool true])) cs:=rfl
 rw [hfin0,hfin1] at e3
 have hsz0:0 < gs.size:=by grind
 obtain⟨r0,r1,hl,hcw⟩:=h.hand hlp (d:=d) (x:=x0) (gs':=((gs.setIfInBounds 0 (Gr (f0.finish undef) c0)).setIfInBounds i (Gr (fr.finish (.tuple #[x0,.bool true])) cs))) (by omega) hin hs0 hmn1 (Ef (a:=0) (b:=i) (c:=p.bc) (s:=q.cs) (r:=q.cs) (cap:=0) (f1:=gj.frame.fn) (f2:=fr.fn) (f3:=gj.frame.fn) (f4:=fr.fn) (p1:=gj.frame.place) (p2:=fr.place) (p3:=gj.frame.place) (p4:=fr.place) h.bk.n0 hin) (by simp [h.size])
  (by grind) (by grind) (λi' a b=>by grind)
 grind [ofEvents_none,bC]
theorem CW.send(h:CW P p T n sg rk k A Z q gs w t)(hlp:Gs P p T){i:Nat}{g:Goroutine}{fr:Frame}{cs:List Frame}{x z:Value}(hi:gs[i]? =some g)(hst:stepG P (i == 0) g w= .comm (Gr fr cs) #[scase p.bc x z] true .send w #[])(h1:Kq P p (yz P p T (rk i)) (i == 0) (sg i) ⟨w,A i,Z i⟩ fr cs x z)
 (hp:partners (gs.setIfInBounds i ph) p.bc false≠[]):
 ∃sg' rk' q' gs' w' ops,Rk.lt (rk' 0) (rk 0)/\runT P (crowd gs w sl) i=(.next (crowd gs' w' sl),ops)/\CW P p T n sg' rk' k A Z q' gs' w' (t++ops):=by
 have hcr:=h1.1
 have hmn:=h1.2.1
 have hi0:i=0:=by simp_all
 subst hi0
 have hin:=h.lt hi
 have hch:=h.at_.ch hcr
 have hcl:q.cl=false:=h.bk.op h1.2.2.1
 rw [hcl] at hch
 obtain⟨j,gj,zj,shj,d,e1,e2,e3⟩:=crowd_send_meets_some (sl:=sl) hi hst hch hp λj kk hm=>by
  obtain⟨a,b,c,f0,c0,z0,e,_⟩:=h.receiver hm;grind
 have hmem:(j,0)∈partners (gs.setIfInBounds 0 ph) p.bc false:=by
  rw [partners_eq];exact List.mem_flatMap.2 ⟨(_,j),mem_toList_iff.2 (Array.mem_zipIdx_iff_getElem?.2 (by simpa using stand_get e1 e2)),List.mem_map.2 ⟨0,by simp [offersAt_parked_recv],rfl⟩⟩
 obtain⟨_,_,hj0,f1,c1,z1,ej,_,hr1⟩:=h.receiver hmem
 rw [ej] at e2
 have e2':=Option.some.inj e2
 have q1:gj={ Gr f1 c1 with status:=gj.status,offers:=gj.offers }:=by
  have:=congrArg (λg:Goroutine=>(g.frame,g.callers,g.dying)) e2';simp_all [parked,Prod.mk.injEq]
 have q2:shj= .recv true:=by
  have:=congrArg Goroutine.offers e2';grind [parked,Option.some.injEq,Prod.mk.injEq]
 subst q2
 have hjn:=h.lt ej
 have h0:Kq P p (yz P p T (rk 0)) true (sg 0) ⟨w,A 0,Z 0⟩ fr cs x z:=h1
 have hfin1:gj.finishComm P #[rcase p.bc zj] (.recv true) 0 x true=Gr (f1.finish (.tuple #[x,.bool true])) c1:=by rw [q1];rfl
 have hfin0:(Gr fr cs).finishComm P #[scase p.bc x z] .send 0 undef false=Gr (fr.finish undef) cs:=rfl
 rw [hfin0,hfin1] at e3
 obtain⟨r0,r1,hl,hcw⟩:=h.hand hlp (d:=d) (x:=x) (gs':=((gs.setIfInBounds j (Gr (f1.finish (.tuple #[x,.bool true])) c1)).setIfInBounds 0 (Gr (fr.finish undef) cs))) hj0 hjn h0 hr1 (Ef (a:=0) (b:=j) (c:=p.bc) (s:=q.cs) (r:=q.cs) (cap:=0) (f1:=fr.fn) (f2:=gj.frame.fn) (f3:=fr.fn) (f4:=gj.frame.fn) (p1:=fr.place) (p2:=gj.frame.place) (p3:=fr.place) (p4:=gj.frame.place) h.bk.n0 hjn) (by simp [h.size])
  (by grind) (by grind) (λi' a b=>by grind)
 grind [ofEvents_none,bC]
end
end K
