import Derived.Test.YtmeojbemjkmebaaGreatDoorRDB5
import Derived.Test.YtmeojbemjkmebaaGreatDoorProg
import Derived.Stop.Asserts
set_option linter.unusedSimpArgs false
set_option linter.unusedVariables false
set_option maxRecDepth 20000
set_option maxHeartbeats 4000000
namespace Go.Proofs.YtmeojbemjkmebaaGreatDoor
open K Go Go.Proofs Go.Extern
abbrev hd(T:Nat):Value:=.pointer (some ⟨2,T,none⟩)
abbrev sU:Value:=.iface 221 (.agg #[hd 94])
abbrev PC(T:Nat)(a:Nat)(fl:Int):A:=.agg (.pair (.eq (hd T)) (.pair (.eq (.pointer (some ⟨a,0,none⟩))) (.eq (.int .u64 fl))))
abbrev tK(T:Nat)(a:Nat)(fl:Int):Value:=.agg #[hd T,.pointer (some ⟨a,0,none⟩),.int .u64 fl]
theorem MU:fZ Tryz.prog 109 (fun args=>ReflectliteValue.unpack (args.getD 0 (.tuple #[]))):=fZ.of Tryz.func109 (by kernel_rfl) (by kernel_rfl) (by kernel_rfl) (by kernel_rfl)
theorem PY:fZ Tryz.prog 110 (ReflectliteValue.methodAny (ReflectliteValue.valueError "reflectlite.Value.Type" 0) fun t _ _ _=>ReflectliteType.toType t):=fZ.of Tryz.func110 (by kernel_rfl) (by kernel_rfl) (by kernel_rfl) (by kernel_rfl)
theorem PX:fZ Tryz.prog 111 (ReflectliteValue.method (ReflectliteValue.valueError "reflectlite.Value.IsNil" 0) ReflectliteValue.isNil):=fZ.of Tryz.func111 (by kernel_rfl) (by kernel_rfl) (by kernel_rfl) (by kernel_rfl)
theorem PW:fZ Tryz.prog 143 ReflectliteType.typeOf:=fZ.of Tryz.func143 (by kernel_rfl) (by kernel_rfl) (by kernel_rfl) (by kernel_rfl)
theorem PV:fZ Tryz.prog 144 (ReflectliteValue.method (ReflectliteValue.valueError "reflectlite.Value.Elem" 0) ReflectliteValue.elem):=fZ.of Tryz.func144 (by kernel_rfl) (by kernel_rfl) (by kernel_rfl) (by kernel_rfl)
theorem MS:fZ Tryz.prog 145 ReflectliteValue.set:=fZ.of Tryz.func145 (by kernel_rfl) (by kernel_rfl) (by kernel_rfl) (by kernel_rfl)
theorem MR:fZ Tryz.prog 188 (ReflectliteType.abiMethod fun t=>do pure (.int .u8 (←Rtype.kind t))):=fZ.of Tryz.func188 (by kernel_rfl) (by kernel_rfl) (by kernel_rfl) (by kernel_rfl)
theorem PU:fZ Tryz.prog 198 (ReflectliteType.relation "AssignableTo" ReflectliteType.assignableTo):=fZ.of Tryz.func198 (by kernel_rfl) (by kernel_rfl) (by kernel_rfl) (by kernel_rfl)
theorem PT:fZ Tryz.prog 200 (ReflectliteType.method ReflectliteType.elem):=fZ.of Tryz.func200 (by kernel_rfl) (by kernel_rfl) (by kernel_rfl) (by kernel_rfl)
theorem PS:fZ Tryz.prog 201 (ReflectliteType.relation "Implements" ReflectliteType.implements_):=fZ.of Tryz.func201 (by kernel_rfl) (by kernel_rfl) (by kernel_rfl) (by kernel_rfl)
theorem BM(t:Addr)(w:World):(ReflectliteValue.unpack (.iface 143 (.pointer (some t)))).run Tryz.prog w= .ok (tK 143 w.heap.size 150) (w.alloc (.cells #[.pointer (some t)] 143)):=by kernel_rfl
theorem wR(t:Addr):Ns Tryz.prog (ReflectliteValue.unpack (.iface 143 (.pointer (some t)))):=H5 (by kernel_rfl)
theorem Kt(a:Addr)(w:World):(ReflectliteValue.methodAny (ReflectliteValue.valueError "reflectlite.Value.Type" 0) (fun t _ _ _=>ReflectliteType.toType t) #[.agg #[hd 143,.pointer (some a),.int .u64 150]]).run Tryz.prog w= .ok (.iface 221 (.agg #[hd 143])) w:=by kernel_rfl
theorem CS(a:Addr):Ns Tryz.prog (ReflectliteValue.methodAny (ReflectliteValue.valueError "reflectlite.Value.Type" 0) (fun t _ _ _=>ReflectliteType.toType t) #[.agg #[hd 143,.pointer (some a),.int .u64 150]]):=oW (by kernel_rfl)
theorem MY:dL Tryz.prog 143 1 false:=⟨fun w=>by kernel_rfl,fun w=>by kernel_rfl⟩
theorem Ss(z:Sem Value)(f:TypeId→Addr→Nat→Nat→Sem Value)(v:Value):
 ReflectliteValue.method z f #[v]=(do match←ReflectliteValue.parts v with |none=>z |some (t,a,fl)=>f t a fl (fl % 32)):=rfl
theorem Ac(a:Addr)(w:World):(ReflectliteValue.parts (.agg #[hd 143,.pointer (some a),.int .u64 150])).run Tryz.prog w= .ok (some (143,a,150)) w:=by kernel_rfl
theorem Nb(T:Nat)(w:World):(method (Tryz.prog.types.size+Made.depth) 221 (.agg #[hd T]) "Kind").run Tryz.prog w= .ok (188,hd T) w:=by kernel_rfl
theorem Qi(T:Nat)(w:World):(method (Tryz.prog.types.size+Made.depth) 221 (.agg #[hd T]) "Elem").run Tryz.prog w= .ok (200,.agg #[hd T]) w:=by kernel_rfl
theorem Qh(T:Nat)(w:World):(method (Tryz.prog.types.size+Made.depth) 221 (.agg #[hd T]) "Implements").run Tryz.prog w= .ok (201,.agg #[hd T]) w:=by kernel_rfl
theorem Qj(T:Nat)(w:World):(method (Tryz.prog.types.size+Made.depth) 221 (.agg #[hd T]) "AssignableTo").run Tryz.prog w= .ok (198,.agg #[hd T]) w:=by kernel_rfl
theorem K4(w:World):((ReflectliteType.abiMethod fun t=>do pure (.int .u8 (←Rtype.kind t))) #[hd 143]).run Tryz.prog w= .ok (.int .u8 22) w:=by kernel_rfl
theorem K5(w:World):((ReflectliteType.abiMethod fun t=>do pure (.int .u8 (←Rtype.kind t))) #[hd 140]).run Tryz.prog w= .ok (.int .u8 25) w:=by kernel_rfl
theorem LK(w:World):(ReflectliteType.method ReflectliteType.elem #[.agg #[hd 143]]).run Tryz.prog w= .ok (.iface 221 (.agg #[hd 140])) w:=by kernel_rfl
theorem K7(w:World):(ReflectliteType.relation "Implements" ReflectliteType.implements_ #[.agg #[hd 140],sU]).run Tryz.prog w= .ok (.bool true) w:=by kernel_rfl
theorem E4(v:Value)(w:World):(ReflectliteType.typeOf #[.iface 140 v]).run Tryz.prog w= .ok (.iface 221 (.agg #[hd 140])) w:=by kernel_rfl
theorem LX(w:World):(ReflectliteType.relation "AssignableTo" ReflectliteType.assignableTo #[.agg #[hd 140],.iface 221 (.agg #[hd 140])]).run Tryz.prog w= .ok (.bool true) w:=by kernel_rfl
theorem BN(n:Int)(w:World):(ReflectliteValue.unpack (.iface 140 (.agg #[.int .i64 n]))).run Tryz.prog w= .ok (tK 140 w.heap.size 153) (w.alloc (.cells #[.int .i64 n] 140)):=by kernel_rfl
theorem FH(v:Value):Ns Tryz.prog (ReflectliteType.typeOf #[.iface 140 v]):=oW (by kernel_rfl)
theorem wS(n:Int):Ns Tryz.prog (ReflectliteValue.unpack (.iface 140 (.agg #[.int .i64 n]))):=H5 (by kernel_rfl)
theorem Ee(T:Nat)(h:T=143∨T=140):Ns Tryz.prog (callMethod (.iface 221 (.agg #[hd T])) "Kind" #[]):=by
 rcases h with rfl |rfl
 ·exact Ao (by kernel_rfl)
 ·exact Ao (by kernel_rfl)
theorem KW:Ns Tryz.prog (callMethod (.iface 221 (.agg #[hd 143])) "Elem" #[]):=Ao (by kernel_rfl)
theorem KV:Ns Tryz.prog (callMethod (.iface 221 (.agg #[hd 140])) "Implements" #[sU]):=Ao (by kernel_rfl)
theorem KY:Ns Tryz.prog (callMethod (.iface 221 (.agg #[hd 140])) "AssignableTo" #[.iface 221 (.agg #[hd 140])]):=Ao (by kernel_rfl)
end Go.Proofs.YtmeojbemjkmebaaGreatDoor
