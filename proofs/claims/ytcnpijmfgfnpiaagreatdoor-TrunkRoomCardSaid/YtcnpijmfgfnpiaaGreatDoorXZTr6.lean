import Derived.Test.YtcnpijmfgfnpiaaGreatDoorXZB5
import Derived.Test.YtcnpijmfgfnpiaaGreatDoorProg
import Derived.Stop.Asserts
set_option linter.unusedSimpArgs false
set_option linter.unusedVariables false
set_option maxRecDepth 20000
set_option maxHeartbeats 4000000
namespace Go.Proofs.YtcnpijmfgfnpiaaGreatDoor
open K Go Go.Proofs Go.Extern
abbrev hd(T:Nat):Value:=.pointer (some ⟨2,T,none⟩)
abbrev rf:Value:=.iface 221 (.agg #[hd 121])
abbrev Nb(T:Nat)(a:Nat)(fl:Int):A:=.agg (.pair (.eq (hd T)) (.pair (.eq (.pointer (some ⟨a,0,none⟩))) (.eq (.int .u64 fl))))
abbrev rU(T:Nat)(a:Nat)(fl:Int):Value:=.agg #[hd T,.pointer (some ⟨a,0,none⟩),.int .u64 fl]
theorem Ko:fm Tryz.prog 130 (fun args=>ReflectliteValue.unpack (args.getD 0 (.tuple #[]))):=fm.of Tryz.func130 (by kernel_rfl) (by kernel_rfl) (by kernel_rfl) (by kernel_rfl)
theorem NE:fm Tryz.prog 131 (ReflectliteValue.methodAny (ReflectliteValue.valueError "reflectlite.Value.Type" 0) fun t _ _ _=>ReflectliteType.toType t):=fm.of Tryz.func131 (by kernel_rfl) (by kernel_rfl) (by kernel_rfl) (by kernel_rfl)
theorem ND:fm Tryz.prog 132 (ReflectliteValue.method (ReflectliteValue.valueError "reflectlite.Value.IsNil" 0) ReflectliteValue.isNil):=fm.of Tryz.func132 (by kernel_rfl) (by kernel_rfl) (by kernel_rfl) (by kernel_rfl)
theorem NC:fm Tryz.prog 160 ReflectliteType.typeOf:=fm.of Tryz.func160 (by kernel_rfl) (by kernel_rfl) (by kernel_rfl) (by kernel_rfl)
theorem NA:fm Tryz.prog 161 (ReflectliteValue.method (ReflectliteValue.valueError "reflectlite.Value.Elem" 0) ReflectliteValue.elem):=fm.of Tryz.func161 (by kernel_rfl) (by kernel_rfl) (by kernel_rfl) (by kernel_rfl)
theorem J9:fm Tryz.prog 162 ReflectliteValue.set:=fm.of Tryz.func162 (by kernel_rfl) (by kernel_rfl) (by kernel_rfl) (by kernel_rfl)
theorem J8:fm Tryz.prog 229 (ReflectliteType.abiMethod fun t=>do pure (.int .u8 (←Rtype.kind t))):=fm.of Tryz.func229 (by kernel_rfl) (by kernel_rfl) (by kernel_rfl) (by kernel_rfl)
theorem Nz:fm Tryz.prog 239 (ReflectliteType.relation "AssignableTo" ReflectliteType.assignableTo):=fm.of Tryz.func239 (by kernel_rfl) (by kernel_rfl) (by kernel_rfl) (by kernel_rfl)
theorem Ny:fm Tryz.prog 241 (ReflectliteType.method ReflectliteType.elem):=fm.of Tryz.func241 (by kernel_rfl) (by kernel_rfl) (by kernel_rfl) (by kernel_rfl)
theorem Nw:fm Tryz.prog 242 (ReflectliteType.relation "Implements" ReflectliteType.implements_):=fm.of Tryz.func242 (by kernel_rfl) (by kernel_rfl) (by kernel_rfl) (by kernel_rfl)
theorem Ac(t:Addr)(w:World):(ReflectliteValue.unpack (.iface 123 (.pointer (some t)))).run Tryz.prog w= .ok (rU 123 w.heap.size 150) (w.alloc (.cells #[.pointer (some t)] 123)):=by kernel_rfl
theorem vg(t:Addr):Ns Tryz.prog (ReflectliteValue.unpack (.iface 123 (.pointer (some t)))):=FZ (by kernel_rfl)
theorem Ic(a:Addr)(w:World):(ReflectliteValue.methodAny (ReflectliteValue.valueError "reflectlite.Value.Type" 0) (fun t _ _ _=>ReflectliteType.toType t) #[.agg #[hd 123,.pointer (some a),.int .u64 150]]).run Tryz.prog w= .ok (.iface 221 (.agg #[hd 123])) w:=by kernel_rfl
theorem AM(a:Addr):Ns Tryz.prog (ReflectliteValue.methodAny (ReflectliteValue.valueError "reflectlite.Value.Type" 0) (fun t _ _ _=>ReflectliteType.toType t) #[.agg #[hd 123,.pointer (some a),.int .u64 150]]):=nr (by kernel_rfl)
theorem Kt:dp Tryz.prog 123 1 false:=⟨fun w=>by kernel_rfl,fun w=>by kernel_rfl⟩
theorem Qb(z:Sem Value)(f:TypeId→Addr→Nat→Nat→Sem Value)(v:Value):
 ReflectliteValue.method z f #[v]=(do match←ReflectliteValue.parts v with |none=>z |some (t,a,fl)=>f t a fl (fl % 32)):=rfl
theorem yF(a:Addr)(w:World):(ReflectliteValue.parts (.agg #[hd 123,.pointer (some a),.int .u64 150])).run Tryz.prog w= .ok (some (123,a,150)) w:=by kernel_rfl
theorem KD(T:Nat)(w:World):(method (Tryz.prog.types.size+Made.depth) 221 (.agg #[hd T]) "Kind").run Tryz.prog w= .ok (229,hd T) w:=by kernel_rfl
theorem N6(T:Nat)(w:World):(method (Tryz.prog.types.size+Made.depth) 221 (.agg #[hd T]) "Elem").run Tryz.prog w= .ok (241,.agg #[hd T]) w:=by kernel_rfl
theorem N5(T:Nat)(w:World):(method (Tryz.prog.types.size+Made.depth) 221 (.agg #[hd T]) "Implements").run Tryz.prog w= .ok (242,.agg #[hd T]) w:=by kernel_rfl
theorem N7(T:Nat)(w:World):(method (Tryz.prog.types.size+Made.depth) 221 (.agg #[hd T]) "AssignableTo").run Tryz.prog w= .ok (239,.agg #[hd T]) w:=by kernel_rfl
theorem IT(w:World):((ReflectliteType.abiMethod fun t=>do pure (.int .u8 (←Rtype.kind t))) #[hd 123]).run Tryz.prog w= .ok (.int .u8 22) w:=by kernel_rfl
theorem IU(w:World):((ReflectliteType.abiMethod fun t=>do pure (.int .u8 (←Rtype.kind t))) #[hd 118]).run Tryz.prog w= .ok (.int .u8 25) w:=by kernel_rfl
theorem Jt(w:World):(ReflectliteType.method ReflectliteType.elem #[.agg #[hd 123]]).run Tryz.prog w= .ok (.iface 221 (.agg #[hd 118])) w:=by kernel_rfl
theorem IX(w:World):(ReflectliteType.relation "Implements" ReflectliteType.implements_ #[.agg #[hd 118],rf]).run Tryz.prog w= .ok (.bool true) w:=by kernel_rfl
theorem C7(v:Value)(w:World):(ReflectliteType.typeOf #[.iface 118 v]).run Tryz.prog w= .ok (.iface 221 (.agg #[hd 118])) w:=by kernel_rfl
theorem JG(w:World):(ReflectliteType.relation "AssignableTo" ReflectliteType.assignableTo #[.agg #[hd 118],.iface 221 (.agg #[hd 118])]).run Tryz.prog w= .ok (.bool true) w:=by kernel_rfl
theorem Ad(n:Int)(w:World):(ReflectliteValue.unpack (.iface 118 (.agg #[.int .i64 n]))).run Tryz.prog w= .ok (rU 118 w.heap.size 153) (w.alloc (.cells #[.int .i64 n] 118)):=by kernel_rfl
theorem DG(v:Value):Ns Tryz.prog (ReflectliteType.typeOf #[.iface 118 v]):=nr (by kernel_rfl)
theorem vi(n:Int):Ns Tryz.prog (ReflectliteValue.unpack (.iface 118 (.agg #[.int .i64 n]))):=FZ (by kernel_rfl)
theorem BM(T:Nat)(h:T=123∨T=118):Ns Tryz.prog (callMethod (.iface 221 (.agg #[hd T])) "Kind" #[]):=by
 rcases h with rfl |rfl
 ·exact yT (by kernel_rfl)
 ·exact yT (by kernel_rfl)
theorem II:Ns Tryz.prog (callMethod (.iface 221 (.agg #[hd 123])) "Elem" #[]):=yT (by kernel_rfl)
theorem IH:Ns Tryz.prog (callMethod (.iface 221 (.agg #[hd 118])) "Implements" #[rf]):=yT (by kernel_rfl)
theorem IK:Ns Tryz.prog (callMethod (.iface 221 (.agg #[hd 118])) "AssignableTo" #[.iface 221 (.agg #[hd 118])]):=yT (by kernel_rfl)
end Go.Proofs.YtcnpijmfgfnpiaaGreatDoor
