import Derived.Test.YtcnpijmfgfnpiaaGreatDoorXYB5
import Derived.Test.YtcnpijmfgfnpiaaGreatDoorProg
import Derived.Stop.Asserts
set_option linter.unusedSimpArgs false
set_option linter.unusedVariables false
set_option maxRecDepth 20000
set_option maxHeartbeats 4000000
namespace Go.Proofs.YtcnpijmfgfnpiaaGreatDoor
open K Go Go.Proofs Go.Extern
abbrev hd(T:Nat):Value:=.pointer (some ⟨2,T,none⟩)
abbrev qO:Value:=.iface 221 (.agg #[hd 121])
abbrev LR(T:Nat)(a:Nat)(fl:Int):A:=.agg (.pair (.eq (hd T)) (.pair (.eq (.pointer (some ⟨a,0,none⟩))) (.eq (.int .u64 fl))))
abbrev rC(T:Nat)(a:Nat)(fl:Int):Value:=.agg #[hd T,.pointer (some ⟨a,0,none⟩),.int .u64 fl]
theorem Jh:fy Tryz.prog 130 (fun args=>ReflectliteValue.unpack (args.getD 0 (.tuple #[]))):=fy.of Tryz.func130 (by kernel_rfl) (by kernel_rfl) (by kernel_rfl) (by kernel_rfl)
theorem MC:fy Tryz.prog 131 (ReflectliteValue.methodAny (ReflectliteValue.valueError "reflectlite.Value.Type" 0) fun t _ _ _=>ReflectliteType.toType t):=fy.of Tryz.func131 (by kernel_rfl) (by kernel_rfl) (by kernel_rfl) (by kernel_rfl)
theorem MB:fy Tryz.prog 132 (ReflectliteValue.method (ReflectliteValue.valueError "reflectlite.Value.IsNil" 0) ReflectliteValue.isNil):=fy.of Tryz.func132 (by kernel_rfl) (by kernel_rfl) (by kernel_rfl) (by kernel_rfl)
theorem MA:fy Tryz.prog 160 ReflectliteType.typeOf:=fy.of Tryz.func160 (by kernel_rfl) (by kernel_rfl) (by kernel_rfl) (by kernel_rfl)
theorem Me:fy Tryz.prog 161 (ReflectliteValue.method (ReflectliteValue.valueError "reflectlite.Value.Elem" 0) ReflectliteValue.elem):=fy.of Tryz.func161 (by kernel_rfl) (by kernel_rfl) (by kernel_rfl) (by kernel_rfl)
theorem Jg:fy Tryz.prog 162 ReflectliteValue.set:=fy.of Tryz.func162 (by kernel_rfl) (by kernel_rfl) (by kernel_rfl) (by kernel_rfl)
theorem Jf:fy Tryz.prog 229 (ReflectliteType.abiMethod fun t=>do pure (.int .u8 (←Rtype.kind t))):=fy.of Tryz.func229 (by kernel_rfl) (by kernel_rfl) (by kernel_rfl) (by kernel_rfl)
theorem Mc:fy Tryz.prog 239 (ReflectliteType.relation "AssignableTo" ReflectliteType.assignableTo):=fy.of Tryz.func239 (by kernel_rfl) (by kernel_rfl) (by kernel_rfl) (by kernel_rfl)
theorem L9:fy Tryz.prog 241 (ReflectliteType.method ReflectliteType.elem):=fy.of Tryz.func241 (by kernel_rfl) (by kernel_rfl) (by kernel_rfl) (by kernel_rfl)
theorem L8:fy Tryz.prog 242 (ReflectliteType.relation "Implements" ReflectliteType.implements_):=fy.of Tryz.func242 (by kernel_rfl) (by kernel_rfl) (by kernel_rfl) (by kernel_rfl)
theorem zp(t:Addr)(w:World):(ReflectliteValue.unpack (.iface 123 (.pointer (some t)))).run Tryz.prog w= .ok (rC 123 w.heap.size 150) (w.alloc (.cells #[.pointer (some t)] 123)):=by kernel_rfl
theorem uH(t:Addr):Ns Tryz.prog (ReflectliteValue.unpack (.iface 123 (.pointer (some t)))):=EZ (by kernel_rfl)
theorem Hy(a:Addr)(w:World):(ReflectliteValue.methodAny (ReflectliteValue.valueError "reflectlite.Value.Type" 0) (fun t _ _ _=>ReflectliteType.toType t) #[.agg #[hd 123,.pointer (some a),.int .u64 150]]).run Tryz.prog w= .ok (.iface 221 (.agg #[hd 123])) w:=by kernel_rfl
theorem zU(a:Addr):Ns Tryz.prog (ReflectliteValue.methodAny (ReflectliteValue.valueError "reflectlite.Value.Type" 0) (fun t _ _ _=>ReflectliteType.toType t) #[.agg #[hd 123,.pointer (some a),.int .u64 150]]):=ni (by kernel_rfl)
theorem Jl:dx Tryz.prog 123 1 false:=⟨fun w=>by kernel_rfl,fun w=>by kernel_rfl⟩
theorem O3(z:Sem Value)(f:TypeId→Addr→Nat→Nat→Sem Value)(v:Value):
 ReflectliteValue.method z f #[v]=(do match←ReflectliteValue.parts v with |none=>z |some (t,a,fl)=>f t a fl (fl % 32)):=rfl
theorem xZ(a:Addr)(w:World):(ReflectliteValue.parts (.agg #[hd 123,.pointer (some a),.int .u64 150])).run Tryz.prog w= .ok (some (123,a,150)) w:=by kernel_rfl
theorem Jv(T:Nat)(w:World):(method (Tryz.prog.types.size+Made.depth) 221 (.agg #[hd T]) "Kind").run Tryz.prog w= .ok (229,hd T) w:=by kernel_rfl
theorem M4(T:Nat)(w:World):(method (Tryz.prog.types.size+Made.depth) 221 (.agg #[hd T]) "Elem").run Tryz.prog w= .ok (241,.agg #[hd T]) w:=by kernel_rfl
theorem MZ(T:Nat)(w:World):(method (Tryz.prog.types.size+Made.depth) 221 (.agg #[hd T]) "Implements").run Tryz.prog w= .ok (242,.agg #[hd T]) w:=by kernel_rfl
theorem M5(T:Nat)(w:World):(method (Tryz.prog.types.size+Made.depth) 221 (.agg #[hd T]) "AssignableTo").run Tryz.prog w= .ok (239,.agg #[hd T]) w:=by kernel_rfl
theorem H8(w:World):((ReflectliteType.abiMethod fun t=>do pure (.int .u8 (←Rtype.kind t))) #[hd 123]).run Tryz.prog w= .ok (.int .u8 22) w:=by kernel_rfl
theorem H9(w:World):((ReflectliteType.abiMethod fun t=>do pure (.int .u8 (←Rtype.kind t))) #[hd 118]).run Tryz.prog w= .ok (.int .u8 25) w:=by kernel_rfl
theorem IF(w:World):(ReflectliteType.method ReflectliteType.elem #[.agg #[hd 123]]).run Tryz.prog w= .ok (.iface 221 (.agg #[hd 118])) w:=by kernel_rfl
theorem Ic(w:World):(ReflectliteType.relation "Implements" ReflectliteType.implements_ #[.agg #[hd 118],qO]).run Tryz.prog w= .ok (.bool true) w:=by kernel_rfl
theorem BQ(v:Value)(w:World):(ReflectliteType.typeOf #[.iface 118 v]).run Tryz.prog w= .ok (.iface 221 (.agg #[hd 118])) w:=by kernel_rfl
theorem IO(w:World):(ReflectliteType.relation "AssignableTo" ReflectliteType.assignableTo #[.agg #[hd 118],.iface 221 (.agg #[hd 118])]).run Tryz.prog w= .ok (.bool true) w:=by kernel_rfl
theorem zq(n:Int)(w:World):(ReflectliteValue.unpack (.iface 118 (.agg #[.int .i64 n]))).run Tryz.prog w= .ok (rC 118 w.heap.size 153) (w.alloc (.cells #[.int .i64 n] 118)):=by kernel_rfl
theorem CJ(v:Value):Ns Tryz.prog (ReflectliteType.typeOf #[.iface 118 v]):=ni (by kernel_rfl)
theorem uI(n:Int):Ns Tryz.prog (ReflectliteValue.unpack (.iface 118 (.agg #[.int .i64 n]))):=EZ (by kernel_rfl)
theorem A5(T:Nat)(h:T=123∨T=118):Ns Tryz.prog (callMethod (.iface 221 (.agg #[hd T])) "Kind" #[]):=by
 rcases h with rfl |rfl
 ·exact yl (by kernel_rfl)
 ·exact yl (by kernel_rfl)
theorem HZ:Ns Tryz.prog (callMethod (.iface 221 (.agg #[hd 123])) "Elem" #[]):=yl (by kernel_rfl)
theorem HY:Ns Tryz.prog (callMethod (.iface 221 (.agg #[hd 118])) "Implements" #[qO]):=yl (by kernel_rfl)
theorem H3:Ns Tryz.prog (callMethod (.iface 221 (.agg #[hd 118])) "AssignableTo" #[.iface 221 (.agg #[hd 118])]):=yl (by kernel_rfl)
end Go.Proofs.YtcnpijmfgfnpiaaGreatDoor
