import Derived.Test.YtcnpijmfgfnpiaaGreatDoorXRB5
import Derived.Laws.Strings
import Derived.Laws.Strings2
import Derived.Laws.Strings3
import Derived.Laws.DeepStrings4
import Derived.Laws.RangeString
import Derived.Laws.BytesString
set_option linter.unusedSimpArgs false
set_option linter.unusedVariables false
namespace Go.Proofs.YtcnpijmfgfnpiaaGreatDoor
namespace K
open Go
section
variable {c:Cx}{P:Program}{M:Md P}{o:Oper}{N N':List (Operand×A)}{Δ:List D}{T1 T2:TypeId}{t1 t2:Ty}{l1:List t1.den}{l2:List t2.den}{d:Int}{S:FS}{w:World}{v a b:Value}
end
end K
end Go.Proofs.YtcnpijmfgfnpiaaGreatDoor
set_option linter.unusedVariables false
namespace Go.Proofs.YtcnpijmfgfnpiaaGreatDoor
namespace K
open Go
@[reducible] def QH{α β:Type}(x:α×β):α×(β ⊕ Value):=(x.1,.inl x.2)
section
variable {c:Cx}{Γ:Ga}{u r:Ty}{v:Value}{T:TypeId}{F:List D}
end
end K
end Go.Proofs.YtcnpijmfgfnpiaaGreatDoor
set_option linter.unusedVariables false
set_option linter.unusedSimpArgs false
namespace Go.Proofs.YtcnpijmfgfnpiaaGreatDoor
namespace K
open Go
def j9:Value→ByteArray
 | .string s=>s
 |_=>⟨#[]⟩
theorem qI{v:Value}(h:ir v=true):∃s,v= .string s:=by
 cases v with
 |string s=>exact⟨s,rfl⟩
 |_=>cases h
theorem yA{v:Value}(h:ir v=true):v= .string (j9 v):=by
 cases v with
 |string s=>rfl
 |_=>cases h
section
variable {P:Program}{M:Md P}{o:Oper}{x y z:Operand}{T T':TypeId}{v u:Value}
theorem AW{c:Call}(ho:o.op= .call c)(hc:c={ callee:=.builtin .len,args:= #[x],argTypes:= #[T] })(hT:P.underlying T=some .string)(hv:ir v=true):
 bD M o [(x,.eq v)] [] (fun _:Unit=>(.eq (.int .i64 ((j9 v).size:Int)),[])):=
 .val0 fun S w a h=>by
  have e:a.eval x= .string (j9 v):=(show a.eval x=v from h.1).trans (yA hv)
  exact⟨.int .i64 ((j9 v).size:Int),by simp [execOp,ho,hc,resolve,invoke,builtin,e,Builtin.len_,run_underlying hT,goInt],rfl⟩
def tl(u v:Value):Bool:=(j9 u).toList == (j9 v).toList
theorem J6(ho:o.op= .binOp .eql T x y T')(h:ir u=true∧ir v=true):bD M o [(x,.eq u),(y,.eq v)] [] (fun _:Unit=>(.eq (.bool (tl u v)),[])):=by
 obtain⟨a,rfl⟩:=qI h.1;obtain⟨b,rfl⟩:=qI h.2;exact gf ho fun w=>by simp [eqGuard,binOp,Op.stringOp,tl,j9]
theorem HF(ho:o.op= .binOp .neq T x y T')(h:ir u=true∧ir v=true):bD M o [(x,.eq u),(y,.eq v)] [] (fun _:Unit=>(.eq (.bool (!tl u v)),[])):=by
 obtain⟨a,rfl⟩:=qI h.1;obtain⟨b,rfl⟩:=qI h.2;exact gf ho fun w=>by simp [eqGuard,binOp,Op.stringOp,tl,j9]
theorem Ce(ho:o.op= .range T x)(hT:P.underlying T=some .string)(hv:ir v=true):bD M o [(x,.eq v)] [] (fun z:Nat=>(.eq (.pointer (some ⟨z,0,none⟩)),[.raw z (.stringIter (j9 v) 0)])):=by
 refine gg ⟨by simp only [nd, *],fun S w a next hd hN _ k=>?_⟩ (fun _ _ a _ _=>f7 (by simp only [o4, *]) a.eval) (fun d hd=>by first |(simp at hd;done) |(simp at hd;subst hd;trivial));have e:a.eval x= .string (j9 v):=(show a.eval x=v from hN.1).trans (yA hv)
 have hr:(execOp a.eval o).run P w= .ok (.value (.pointer (some ⟨w.heap.size,0,none⟩))) (w.alloc (.stringIter (j9 v) 0)):=by
  simp only [execOp,ho,e,Sem.run_bind,run_range_string w T _ hT,Result.andThen_ok,Sem.run_pure];rfl
 rw [hr];refine k w.heap.size S _ _ (eA hd _) rfl (dw (heap_alloc_new w _) ?_) ?_
 ·intro b hb;simp only [D.foot,Option.some.injEq] at hb;subst hb;exact⟨fun h=>by have:=hd _ h;omega,by simp⟩
 ·intro b hb;have:b=w.heap.size:=by simpa [D.foot,eq_comm] using cR.1 hb
  exact .inr (by omega)
theorem tA{w:World}{r:Nat}{s:ByteArray}{p:Nat}(h:w.heap[r]? =some (.stringIter s p)):(getObj r).run P w= .ok (.stringIter s p) w:=by simp [getObj,Sem.run,h]
theorem EC{r p:Nat}{s:ByteArray}(ho:o.op= .next x true)(h:p < s.size):
 bD M o [(x,.eq (.pointer (some ⟨r,0,none⟩)))] [.raw r (.stringIter s p)] (fun _:Unit=>(.tup (.pair (.eq (.bool true)) (.pair (.eq (.int .i64 (p:Int))) (.pair (.eq (.int .i32 ((Utf8.decode s p).1:Int))) .any))),[.raw r (.stringIter s (p+(Utf8.decode s p).2))])):=by
 refine gg ⟨by simp only [nd, *],fun S w a next hd hN hO k=>?_⟩ (fun _ _ a _ _=>f7 (by simp only [o4, *]) a.eval) (fun d hd=>by rw [List.mem_singleton.1 hd];rfl)
 have e:a.eval x= .pointer (some ⟨r,0,none⟩):=hN.1
 have h1:w.heap[r]? =some (.stringIter s p):=hO.holds _ (List.mem_singleton.2 rfl)
 have hb:=hO.own r ⟨_,List.mem_singleton.2 rfl,rfl⟩
 have hn:(Instr.next (.pointer (some ⟨r,0,none⟩)) true o.type).run P w= .ok (.tuple #[.bool true,.int .i64 (p:Int),.int .i32 ((Utf8.decode s p).1:Int)]) (w.putObj r (.stringIter s (p+(Utf8.decode s p).2))):=by
  simp only [Instr.next,Sem.run_bind,tA h1,Result.andThen_ok,h,if_true];simp [setObj,Sem.run,h1,goInt,World.putObj]
 have hrun:(execOp a.eval o).run P w= .ok (.value (.tuple #[.bool true,.int .i64 (p:Int),.int .i32 ((Utf8.decode s p).1:Int)])) (w.putObj r (.stringIter s (p+(Utf8.decode s p).2))):=by
  simp only [execOp,ho,e,Sem.run_bind,hn,Result.andThen_ok,Sem.run_pure]
 rw [hrun]
 refine k () S _ _ (qj hd ⟨_,List.mem_singleton.2 rfl,rfl⟩ _) ⟨[_,_,_],rfl,_,_,rfl,rfl,_,_,rfl,rfl,_,_,rfl,rfl,rfl⟩ (dw (zM hb.2) fun b h=>?_) (fun b ⟨d,hd',e'⟩=>.inl ⟨_,List.mem_singleton.2 rfl,by rw [List.mem_singleton.1 hd'] at e';exact e'⟩)
 simp only [D.foot,Option.some.injEq] at h
 subst h
 exact⟨hb.1,by rw [qw];exact hb.2⟩
theorem Cf{r p:Nat}{s:ByteArray}(ho:o.op= .next x true)(h:¬p < s.size):
 bD M o [(x,.eq (.pointer (some ⟨r,0,none⟩)))] [.raw r (.stringIter s p)] (fun _:Unit=>(.tup (.pair (.eq (.bool false)) .any),[.raw r (.stringIter s p)])):=by
 refine gg ⟨by simp only [nd, *],fun S w a next hd hN hO k=>?_⟩ (fun _ _ a _ _=>f7 (by simp only [o4, *]) a.eval) (fun d hd=>by rw [List.mem_singleton.1 hd];rfl)
 have e:a.eval x= .pointer (some ⟨r,0,none⟩):=hN.1
 have h1:w.heap[r]? =some (.stringIter s p):=hO.holds _ (List.mem_singleton.2 rfl)
 have hn:(Instr.next (.pointer (some ⟨r,0,none⟩)) true o.type).run P w= .ok (.tuple #[.bool false]) w:=by
  simp only [Instr.next,Sem.run_bind,tA h1,Result.andThen_ok,h,if_false,Sem.run_pure]
 have hrun:(execOp a.eval o).run P w= .ok (.value (.tuple #[.bool false])) w:=by
  simp only [execOp,ho,e,Sem.run_bind,hn,Result.andThen_ok,Sem.run_pure]
 rw [hrun]
 exact k () S w _ (ig.refl hd) ⟨[_],rfl,_,_,rfl,rfl,rfl⟩ hO (fun b hb=>.inl hb)
theorem xW{vs:Nat→Value}{ls:List (List Int)}{j:Nat}{e TE:TypeId}{c:Call}(ho:o.op= .call c)(hc:c={ callee:=.builtin .len,args:= #[x],argTypes:= #[T] })(hT:P.underlying T=some (.slice e)):
 bD M o [(x,.eq v)] [.sl v TE .val (dY vs j ls)] (fun _:Unit=>(.eq (.int .i64 (ls.length:Int)),[.sl v TE .val (dY vs j ls)])):=by
 have h:=cN (M:=M) (t:=.val) (v:=v) (TE:=TE) (l:=dY vs j ls) ho hc hT
 rw [fu] at h
 exact h
end
end K
end Go.Proofs.YtcnpijmfgfnpiaaGreatDoor
