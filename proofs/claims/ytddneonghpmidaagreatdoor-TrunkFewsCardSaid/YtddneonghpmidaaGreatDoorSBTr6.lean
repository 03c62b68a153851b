import Derived.Test.YtddneonghpmidaaGreatDoorSBB5
import Derived.Test.YtddneonghpmidaaGreatDoorProg
import Derived.Stop.Asserts
set_option linter.unusedSimpArgs false
set_option linter.unusedVariables false
set_option maxRecDepth 20000
set_option maxHeartbeats 4000000
namespace Go.Proofs.YtddneonghpmidaaGreatDoor
open K Go Go.Proofs Go.Extern
abbrev hd(T:Nat):Value:=.pointer (some ⟨2,T,none⟩)
abbrev td:Value:=.iface 210 (.agg #[hd 118])
abbrev PZ(T:Nat)(a:Nat)(fl:Int):A:=.agg (.pair (.eq (hd T)) (.pair (.eq (.pointer (some ⟨a,0,none⟩))) (.eq (.int .u64 fl))))
abbrev tX(T:Nat)(a:Nat)(fl:Int):Value:=.agg #[hd T,.pointer (some ⟨a,0,none⟩),.int .u64 fl]
theorem Nv:f7 Tryz.prog 98 (fun args=>ReflectliteValue.unpack (args.getD 0 (.tuple #[]))):=f7.of Tryz.func98 (by kernel_rfl) (by kernel_rfl) (by kernel_rfl) (by kernel_rfl)
theorem Qk:f7 Tryz.prog 99 (ReflectliteValue.methodAny (ReflectliteValue.valueError "reflectlite.Value.Type" 0) fun t _ _ _=>ReflectliteType.toType t):=f7.of Tryz.func99 (by kernel_rfl) (by kernel_rfl) (by kernel_rfl) (by kernel_rfl)
theorem Qj:f7 Tryz.prog 100 (ReflectliteValue.method (ReflectliteValue.valueError "reflectlite.Value.IsNil" 0) ReflectliteValue.isNil):=f7.of Tryz.func100 (by kernel_rfl) (by kernel_rfl) (by kernel_rfl) (by kernel_rfl)
theorem Qi:f7 Tryz.prog 131 ReflectliteType.typeOf:=f7.of Tryz.func131 (by kernel_rfl) (by kernel_rfl) (by kernel_rfl) (by kernel_rfl)
theorem Qh:f7 Tryz.prog 132 (ReflectliteValue.method (ReflectliteValue.valueError "reflectlite.Value.Elem" 0) ReflectliteValue.elem):=f7.of Tryz.func132 (by kernel_rfl) (by kernel_rfl) (by kernel_rfl) (by kernel_rfl)
theorem Nu:f7 Tryz.prog 133 ReflectliteValue.set:=f7.of Tryz.func133 (by kernel_rfl) (by kernel_rfl) (by kernel_rfl) (by kernel_rfl)
theorem Nr:f7 Tryz.prog 174 (ReflectliteType.abiMethod fun t=>do pure (.int .u8 (←Rtype.kind t))):=f7.of Tryz.func174 (by kernel_rfl) (by kernel_rfl) (by kernel_rfl) (by kernel_rfl)
theorem Qg:f7 Tryz.prog 184 (ReflectliteType.relation "AssignableTo" ReflectliteType.assignableTo):=f7.of Tryz.func184 (by kernel_rfl) (by kernel_rfl) (by kernel_rfl) (by kernel_rfl)
theorem Qf:f7 Tryz.prog 186 (ReflectliteType.method ReflectliteType.elem):=f7.of Tryz.func186 (by kernel_rfl) (by kernel_rfl) (by kernel_rfl) (by kernel_rfl)
theorem Qe:f7 Tryz.prog 187 (ReflectliteType.relation "Implements" ReflectliteType.implements_):=f7.of Tryz.func187 (by kernel_rfl) (by kernel_rfl) (by kernel_rfl) (by kernel_rfl)
theorem CB(t:Addr)(w:World):(ReflectliteValue.unpack (.iface 142 (.pointer (some t)))).run Tryz.prog w= .ok (tX 142 w.heap.size 150) (w.alloc (.cells #[.pointer (some t)] 142)):=by kernel_rfl
theorem xk(t:Addr):Ns Tryz.prog (ReflectliteValue.unpack (.iface 142 (.pointer (some t)))):=Im (by kernel_rfl)
theorem KO(a:Addr)(w:World):(ReflectliteValue.methodAny (ReflectliteValue.valueError "reflectlite.Value.Type" 0) (fun t _ _ _=>ReflectliteType.toType t) #[.agg #[hd 142,.pointer (some a),.int .u64 150]]).run Tryz.prog w= .ok (.iface 210 (.agg #[hd 142])) w:=by kernel_rfl
theorem Ds(a:Addr):Ns Tryz.prog (ReflectliteValue.methodAny (ReflectliteValue.valueError "reflectlite.Value.Type" 0) (fun t _ _ _=>ReflectliteType.toType t) #[.agg #[hd 142,.pointer (some a),.int .u64 150]]):=pj (by kernel_rfl)
theorem Nz:dM Tryz.prog 142 1 false:=⟨fun w=>by kernel_rfl,fun w=>by kernel_rfl⟩
theorem SR(z:Sem Value)(f:TypeId→Addr→Nat→Nat→Sem Value)(v:Value):
 ReflectliteValue.method z f #[v]=(do match←ReflectliteValue.parts v with |none=>z |some (t,a,fl)=>f t a fl (fl % 32)):=rfl
theorem AB(a:Addr)(w:World):(ReflectliteValue.parts (.agg #[hd 142,.pointer (some a),.int .u64 150])).run Tryz.prog w= .ok (some (142,a,150)) w:=by kernel_rfl
theorem NK(T:Nat)(w:World):(method (Tryz.prog.types.size+Made.depth) 210 (.agg #[hd T]) "Kind").run Tryz.prog w= .ok (174,hd T) w:=by kernel_rfl
theorem QI(T:Nat)(w:World):(method (Tryz.prog.types.size+Made.depth) 210 (.agg #[hd T]) "Elem").run Tryz.prog w= .ok (186,.agg #[hd T]) w:=by kernel_rfl
theorem QH(T:Nat)(w:World):(method (Tryz.prog.types.size+Made.depth) 210 (.agg #[hd T]) "Implements").run Tryz.prog w= .ok (187,.agg #[hd T]) w:=by kernel_rfl
theorem QJ(T:Nat)(w:World):(method (Tryz.prog.types.size+Made.depth) 210 (.agg #[hd T]) "AssignableTo").run Tryz.prog w= .ok (184,.agg #[hd T]) w:=by kernel_rfl
theorem Lx(w:World):((ReflectliteType.abiMethod fun t=>do pure (.int .u8 (←Rtype.kind t))) #[hd 142]).run Tryz.prog w= .ok (.int .u8 22) w:=by kernel_rfl
theorem Ly(w:World):((ReflectliteType.abiMethod fun t=>do pure (.int .u8 (←Rtype.kind t))) #[hd 139]).run Tryz.prog w= .ok (.int .u8 25) w:=by kernel_rfl
theorem MC(w:World):(ReflectliteType.method ReflectliteType.elem #[.agg #[hd 142]]).run Tryz.prog w= .ok (.iface 210 (.agg #[hd 139])) w:=by kernel_rfl
theorem LC(w:World):(ReflectliteType.relation "Implements" ReflectliteType.implements_ #[.agg #[hd 139],td]).run Tryz.prog w= .ok (.bool true) w:=by kernel_rfl
theorem Ft(v:Value)(w:World):(ReflectliteType.typeOf #[.iface 139 v]).run Tryz.prog w= .ok (.iface 210 (.agg #[hd 139])) w:=by kernel_rfl
theorem MO(w:World):(ReflectliteType.relation "AssignableTo" ReflectliteType.assignableTo #[.agg #[hd 139],.iface 210 (.agg #[hd 139])]).run Tryz.prog w= .ok (.bool true) w:=by kernel_rfl
theorem CC(n:Int)(w:World):(ReflectliteValue.unpack (.iface 139 (.agg #[.int .i64 n]))).run Tryz.prog w= .ok (tX 139 w.heap.size 153) (w.alloc (.cells #[.int .i64 n] 139)):=by kernel_rfl
theorem F3(v:Value):Ns Tryz.prog (ReflectliteType.typeOf #[.iface 139 v]):=pj (by kernel_rfl)
theorem xl(n:Int):Ns Tryz.prog (ReflectliteValue.unpack (.iface 139 (.agg #[.int .i64 n]))):=Im (by kernel_rfl)
theorem EF(T:Nat)(h:T=142∨T=139):Ns Tryz.prog (callMethod (.iface 210 (.agg #[hd T])) "Kind" #[]):=by
 rcases h with rfl |rfl
 ·exact AP (by kernel_rfl)
 ·exact AP (by kernel_rfl)
theorem Lm:Ns Tryz.prog (callMethod (.iface 210 (.agg #[hd 142])) "Elem" #[]):=AP (by kernel_rfl)
theorem Ll:Ns Tryz.prog (callMethod (.iface 210 (.agg #[hd 139])) "Implements" #[td]):=AP (by kernel_rfl)
theorem Lp:Ns Tryz.prog (callMethod (.iface 210 (.agg #[hd 139])) "AssignableTo" #[.iface 210 (.agg #[hd 139])]):=AP (by kernel_rfl)
