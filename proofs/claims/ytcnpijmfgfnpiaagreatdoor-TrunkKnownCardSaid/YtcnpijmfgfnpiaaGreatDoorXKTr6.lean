import Derived.Test.YtcnpijmfgfnpiaaGreatDoorXKB5
import Derived.Test.YtcnpijmfgfnpiaaGreatDoorProg
import Derived.Stop.Asserts
set_option linter.unusedSimpArgs false
set_option linter.unusedVariables false
set_option maxRecDepth 20000
set_option maxHeartbeats 4000000
namespace Go.Proofs.YtcnpijmfgfnpiaaGreatDoor
open K Go Go.Proofs Go.Extern
abbrev hd(T:Nat):Value:=.pointer (some ⟨2,T,none⟩)
abbrev py:Value:=.iface 221 (.agg #[hd 121])
abbrev Ih(T:Nat)(a:Nat)(fl:Int):A:=.agg (.pair (.eq (hd T)) (.pair (.eq (.pointer (some ⟨a,0,none⟩))) (.eq (.int .u64 fl))))
abbrev qc(T:Nat)(a:Nat)(fl:Int):Value:=.agg #[hd T,.pointer (some ⟨a,0,none⟩),.int .u64 fl]
theorem FX:eF Tryz.prog 130 (fun args=>ReflectliteValue.unpack (args.getD 0 (.tuple #[]))):=eF.of Tryz.func130 (by kernel_rfl) (by kernel_rfl) (by kernel_rfl) (by kernel_rfl)
theorem Iz:eF Tryz.prog 131 (ReflectliteValue.methodAny (ReflectliteValue.valueError "reflectlite.Value.Type" 0) fun t _ _ _=>ReflectliteType.toType t):=eF.of Tryz.func131 (by kernel_rfl) (by kernel_rfl) (by kernel_rfl) (by kernel_rfl)
theorem Iy:eF Tryz.prog 132 (ReflectliteValue.method (ReflectliteValue.valueError "reflectlite.Value.IsNil" 0) ReflectliteValue.isNil):=eF.of Tryz.func132 (by kernel_rfl) (by kernel_rfl) (by kernel_rfl) (by kernel_rfl)
theorem Ix:eF Tryz.prog 160 ReflectliteType.typeOf:=eF.of Tryz.func160 (by kernel_rfl) (by kernel_rfl) (by kernel_rfl) (by kernel_rfl)
theorem Iw:eF Tryz.prog 161 (ReflectliteValue.method (ReflectliteValue.valueError "reflectlite.Value.Elem" 0) ReflectliteValue.elem):=eF.of Tryz.func161 (by kernel_rfl) (by kernel_rfl) (by kernel_rfl) (by kernel_rfl)
theorem FW:eF Tryz.prog 162 ReflectliteValue.set:=eF.of Tryz.func162 (by kernel_rfl) (by kernel_rfl) (by kernel_rfl) (by kernel_rfl)
theorem FV:eF Tryz.prog 229 (ReflectliteType.abiMethod fun t=>do pure (.int .u8 (←Rtype.kind t))):=eF.of Tryz.func229 (by kernel_rfl) (by kernel_rfl) (by kernel_rfl) (by kernel_rfl)
theorem Iu:eF Tryz.prog 239 (ReflectliteType.relation "AssignableTo" ReflectliteType.assignableTo):=eF.of Tryz.func239 (by kernel_rfl) (by kernel_rfl) (by kernel_rfl) (by kernel_rfl)
theorem It:eF Tryz.prog 241 (ReflectliteType.method ReflectliteType.elem):=eF.of Tryz.func241 (by kernel_rfl) (by kernel_rfl) (by kernel_rfl) (by kernel_rfl)
theorem Is:eF Tryz.prog 242 (ReflectliteType.relation "Implements" ReflectliteType.implements_):=eF.of Tryz.func242 (by kernel_rfl) (by kernel_rfl) (by kernel_rfl) (by kernel_rfl)
theorem xy(t:Addr)(w:World):(ReflectliteValue.unpack (.iface 123 (.pointer (some t)))).run Tryz.prog w= .ok (qc 123 w.heap.size 150) (w.alloc (.cells #[.pointer (some t)] 123)):=by kernel_rfl
theorem s4(t:Addr):Ns Tryz.prog (ReflectliteValue.unpack (.iface 123 (.pointer (some t)))):=BR (by kernel_rfl)
theorem Ee(a:Addr)(w:World):(ReflectliteValue.methodAny (ReflectliteValue.valueError "reflectlite.Value.Type" 0) (fun t _ _ _=>ReflectliteType.toType t) #[.agg #[hd 123,.pointer (some a),.int .u64 150]]).run Tryz.prog w= .ok (.iface 221 (.agg #[hd 123])) w:=by kernel_rfl
theorem xY(a:Addr):Ns Tryz.prog (ReflectliteValue.methodAny (ReflectliteValue.valueError "reflectlite.Value.Type" 0) (fun t _ _ _=>ReflectliteType.toType t) #[.agg #[hd 123,.pointer (some a),.int .u64 150]]):=mt (by kernel_rfl)
theorem F4:dc Tryz.prog 123 1 false:=⟨fun w=>by kernel_rfl,fun w=>by kernel_rfl⟩
theorem KY(z:Sem Value)(f:TypeId→Addr→Nat→Nat→Sem Value)(v:Value):
 ReflectliteValue.method z f #[v]=(do match←ReflectliteValue.parts v with |none=>z |some (t,a,fl)=>f t a fl (fl % 32)):=rfl
theorem vT(a:Addr)(w:World):(ReflectliteValue.parts (.agg #[hd 123,.pointer (some a),.int .u64 150])).run Tryz.prog w= .ok (some (123,a,150)) w:=by kernel_rfl
theorem Gg(T:Nat)(w:World):(method (Tryz.prog.types.size+Made.depth) 221 (.agg #[hd T]) "Kind").run Tryz.prog w= .ok (229,hd T) w:=by kernel_rfl
theorem IW(T:Nat)(w:World):(method (Tryz.prog.types.size+Made.depth) 221 (.agg #[hd T]) "Elem").run Tryz.prog w= .ok (241,.agg #[hd T]) w:=by kernel_rfl
theorem IV(T:Nat)(w:World):(method (Tryz.prog.types.size+Made.depth) 221 (.agg #[hd T]) "Implements").run Tryz.prog w= .ok (242,.agg #[hd T]) w:=by kernel_rfl
theorem IX(T:Nat)(w:World):(method (Tryz.prog.types.size+Made.depth) 221 (.agg #[hd T]) "AssignableTo").run Tryz.prog w= .ok (239,.agg #[hd T]) w:=by kernel_rfl
theorem EL(w:World):((ReflectliteType.abiMethod fun t=>do pure (.int .u8 (←Rtype.kind t))) #[hd 123]).run Tryz.prog w= .ok (.int .u8 22) w:=by kernel_rfl
theorem EM(w:World):((ReflectliteType.abiMethod fun t=>do pure (.int .u8 (←Rtype.kind t))) #[hd 118]).run Tryz.prog w= .ok (.int .u8 25) w:=by kernel_rfl
theorem E9(w:World):(ReflectliteType.method ReflectliteType.elem #[.agg #[hd 123]]).run Tryz.prog w= .ok (.iface 221 (.agg #[hd 118])) w:=by kernel_rfl
theorem EO(w:World):(ReflectliteType.relation "Implements" ReflectliteType.implements_ #[.agg #[hd 118],py]).run Tryz.prog w= .ok (.bool true) w:=by kernel_rfl
theorem zF(v:Value)(w:World):(ReflectliteType.typeOf #[.iface 118 v]).run Tryz.prog w= .ok (.iface 221 (.agg #[hd 118])) w:=by kernel_rfl
theorem Fo(w:World):(ReflectliteType.relation "AssignableTo" ReflectliteType.assignableTo #[.agg #[hd 118],.iface 221 (.agg #[hd 118])]).run Tryz.prog w= .ok (.bool true) w:=by kernel_rfl
theorem xz(n:Int)(w:World):(ReflectliteValue.unpack (.iface 118 (.agg #[.int .i64 n]))).run Tryz.prog w= .ok (qc 118 w.heap.size 153) (w.alloc (.cells #[.int .i64 n] 118)):=by kernel_rfl
theorem zW(v:Value):Ns Tryz.prog (ReflectliteType.typeOf #[.iface 118 v]):=mt (by kernel_rfl)
theorem s5(n:Int):Ns Tryz.prog (ReflectliteValue.unpack (.iface 118 (.agg #[.int .i64 n]))):=BR (by kernel_rfl)
theorem yS(T:Nat)(h:T=123∨T=118):Ns Tryz.prog (callMethod (.iface 221 (.agg #[hd T])) "Kind" #[]):=by
 rcases h with rfl |rfl
 ·exact we (by kernel_rfl)
 ·exact we (by kernel_rfl)
theorem ED:Ns Tryz.prog (callMethod (.iface 221 (.agg #[hd 123])) "Elem" #[]):=we (by kernel_rfl)
theorem EC:Ns Tryz.prog (callMethod (.iface 221 (.agg #[hd 118])) "Implements" #[py]):=we (by kernel_rfl)
theorem EF:Ns Tryz.prog (callMethod (.iface 221 (.agg #[hd 118])) "AssignableTo" #[.iface 221 (.agg #[hd 118])]):=we (by kernel_rfl)
end Go.Proofs.YtcnpijmfgfnpiaaGreatDoor
