import Derived.Test.YtcnpijmfgfnpiaaGreatDoorXXB5
import Derived.Test.YtcnpijmfgfnpiaaGreatDoorProg
import Derived.Stop.Asserts
set_option linter.unusedSimpArgs false
set_option linter.unusedVariables false
set_option maxRecDepth 20000
set_option maxHeartbeats 4000000
namespace Go.Proofs.YtcnpijmfgfnpiaaGreatDoor
open K Go Go.Proofs Go.Extern
abbrev hd(T:Nat):Value:=.pointer (some ⟨2,T,none⟩)
abbrev rG:Value:=.iface 221 (.agg #[hd 121])
abbrev NF(T:Nat)(a:Nat)(fl:Int):A:=.agg (.pair (.eq (hd T)) (.pair (.eq (.pointer (some ⟨a,0,none⟩))) (.eq (.int .u64 fl))))
abbrev sB(T:Nat)(a:Nat)(fl:Int):Value:=.agg #[hd T,.pointer (some ⟨a,0,none⟩),.int .u64 fl]
theorem KG:fB Tryz.prog 130 (fun args=>ReflectliteValue.unpack (args.getD 0 (.tuple #[]))):=fB.of Tryz.func130 (by kernel_rfl) (by kernel_rfl) (by kernel_rfl) (by kernel_rfl)
theorem NY:fB Tryz.prog 131 (ReflectliteValue.methodAny (ReflectliteValue.valueError "reflectlite.Value.Type" 0) fun t _ _ _=>ReflectliteType.toType t):=fB.of Tryz.func131 (by kernel_rfl) (by kernel_rfl) (by kernel_rfl) (by kernel_rfl)
theorem NX:fB Tryz.prog 132 (ReflectliteValue.method (ReflectliteValue.valueError "reflectlite.Value.IsNil" 0) ReflectliteValue.isNil):=fB.of Tryz.func132 (by kernel_rfl) (by kernel_rfl) (by kernel_rfl) (by kernel_rfl)
theorem NW:fB Tryz.prog 160 ReflectliteType.typeOf:=fB.of Tryz.func160 (by kernel_rfl) (by kernel_rfl) (by kernel_rfl) (by kernel_rfl)
theorem NV:fB Tryz.prog 161 (ReflectliteValue.method (ReflectliteValue.valueError "reflectlite.Value.Elem" 0) ReflectliteValue.elem):=fB.of Tryz.func161 (by kernel_rfl) (by kernel_rfl) (by kernel_rfl) (by kernel_rfl)
theorem KF:fB Tryz.prog 162 ReflectliteValue.set:=fB.of Tryz.func162 (by kernel_rfl) (by kernel_rfl) (by kernel_rfl) (by kernel_rfl)
theorem KE:fB Tryz.prog 229 (ReflectliteType.abiMethod fun t=>do pure (.int .u8 (←Rtype.kind t))):=fB.of Tryz.func229 (by kernel_rfl) (by kernel_rfl) (by kernel_rfl) (by kernel_rfl)
theorem NU:fB Tryz.prog 239 (ReflectliteType.relation "AssignableTo" ReflectliteType.assignableTo):=fB.of Tryz.func239 (by kernel_rfl) (by kernel_rfl) (by kernel_rfl) (by kernel_rfl)
theorem NT:fB Tryz.prog 241 (ReflectliteType.method ReflectliteType.elem):=fB.of Tryz.func241 (by kernel_rfl) (by kernel_rfl) (by kernel_rfl) (by kernel_rfl)
theorem NS:fB Tryz.prog 242 (ReflectliteType.relation "Implements" ReflectliteType.implements_):=fB.of Tryz.func242 (by kernel_rfl) (by kernel_rfl) (by kernel_rfl) (by kernel_rfl)
theorem AK(t:Addr)(w:World):(ReflectliteValue.unpack (.iface 123 (.pointer (some t)))).run Tryz.prog w= .ok (sB 123 w.heap.size 150) (w.alloc (.cells #[.pointer (some t)] 123)):=by kernel_rfl
theorem vK(t:Addr):Ns Tryz.prog (ReflectliteValue.unpack (.iface 123 (.pointer (some t)))):=Gx (by kernel_rfl)
theorem Iz(a:Addr)(w:World):(ReflectliteValue.methodAny (ReflectliteValue.valueError "reflectlite.Value.Type" 0) (fun t _ _ _=>ReflectliteType.toType t) #[.agg #[hd 123,.pointer (some a),.int .u64 150]]).run Tryz.prog w= .ok (.iface 221 (.agg #[hd 123])) w:=by kernel_rfl
theorem Bf(a:Addr):Ns Tryz.prog (ReflectliteValue.methodAny (ReflectliteValue.valueError "reflectlite.Value.Type" 0) (fun t _ _ _=>ReflectliteType.toType t) #[.agg #[hd 123,.pointer (some a),.int .u64 150]]):=nS (by kernel_rfl)
theorem KL:dC Tryz.prog 123 1 false:=⟨fun w=>by kernel_rfl,fun w=>by kernel_rfl⟩
theorem Qw(z:Sem Value)(f:TypeId→Addr→Nat→Nat→Sem Value)(v:Value):
 ReflectliteValue.method z f #[v]=(do match←ReflectliteValue.parts v with |none=>z |some (t,a,fl)=>f t a fl (fl % 32)):=rfl
theorem yW(a:Addr)(w:World):(ReflectliteValue.parts (.agg #[hd 123,.pointer (some a),.int .u64 150])).run Tryz.prog w= .ok (some (123,a,150)) w:=by kernel_rfl
theorem KX(T:Nat)(w:World):(method (Tryz.prog.types.size+Made.depth) 221 (.agg #[hd T]) "Kind").run Tryz.prog w= .ok (229,hd T) w:=by kernel_rfl
theorem Ot(T:Nat)(w:World):(method (Tryz.prog.types.size+Made.depth) 221 (.agg #[hd T]) "Elem").run Tryz.prog w= .ok (241,.agg #[hd T]) w:=by kernel_rfl
theorem Oq(T:Nat)(w:World):(method (Tryz.prog.types.size+Made.depth) 221 (.agg #[hd T]) "Implements").run Tryz.prog w= .ok (242,.agg #[hd T]) w:=by kernel_rfl
theorem Ou(T:Nat)(w:World):(method (Tryz.prog.types.size+Made.depth) 221 (.agg #[hd T]) "AssignableTo").run Tryz.prog w= .ok (239,.agg #[hd T]) w:=by kernel_rfl
theorem I9(w:World):((ReflectliteType.abiMethod fun t=>do pure (.int .u8 (←Rtype.kind t))) #[hd 123]).run Tryz.prog w= .ok (.int .u8 22) w:=by kernel_rfl
theorem Jb(w:World):((ReflectliteType.abiMethod fun t=>do pure (.int .u8 (←Rtype.kind t))) #[hd 118]).run Tryz.prog w= .ok (.int .u8 25) w:=by kernel_rfl
theorem JK(w:World):(ReflectliteType.method ReflectliteType.elem #[.agg #[hd 123]]).run Tryz.prog w= .ok (.iface 221 (.agg #[hd 118])) w:=by kernel_rfl
theorem Jd(w:World):(ReflectliteType.relation "Implements" ReflectliteType.implements_ #[.agg #[hd 118],rG]).run Tryz.prog w= .ok (.bool true) w:=by kernel_rfl
theorem DL(v:Value)(w:World):(ReflectliteType.typeOf #[.iface 118 v]).run Tryz.prog w= .ok (.iface 221 (.agg #[hd 118])) w:=by kernel_rfl
theorem JY(w:World):(ReflectliteType.relation "AssignableTo" ReflectliteType.assignableTo #[.agg #[hd 118],.iface 221 (.agg #[hd 118])]).run Tryz.prog w= .ok (.bool true) w:=by kernel_rfl
theorem AL(n:Int)(w:World):(ReflectliteValue.unpack (.iface 118 (.agg #[.int .i64 n]))).run Tryz.prog w= .ok (sB 118 w.heap.size 153) (w.alloc (.cells #[.int .i64 n] 118)):=by kernel_rfl
theorem Eh(v:Value):Ns Tryz.prog (ReflectliteType.typeOf #[.iface 118 v]):=nS (by kernel_rfl)
theorem vL(n:Int):Ns Tryz.prog (ReflectliteValue.unpack (.iface 118 (.agg #[.int .i64 n]))):=Gx (by kernel_rfl)
theorem CN(T:Nat)(h:T=123∨T=118):Ns Tryz.prog (callMethod (.iface 221 (.agg #[hd T])) "Kind" #[]):=by
 rcases h with rfl |rfl
 ·exact zi (by kernel_rfl)
 ·exact zi (by kernel_rfl)
theorem I1:Ns Tryz.prog (callMethod (.iface 221 (.agg #[hd 123])) "Elem" #[]):=zi (by kernel_rfl)
theorem I0:Ns Tryz.prog (callMethod (.iface 221 (.agg #[hd 118])) "Implements" #[rG]):=zi (by kernel_rfl)
theorem I3:Ns Tryz.prog (callMethod (.iface 221 (.agg #[hd 118])) "AssignableTo" #[.iface 221 (.agg #[hd 118])]):=zi (by kernel_rfl)
end Go.Proofs.YtcnpijmfgfnpiaaGreatDoor
