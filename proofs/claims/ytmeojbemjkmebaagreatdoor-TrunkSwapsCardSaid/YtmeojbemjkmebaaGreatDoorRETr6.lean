import Derived.Test.YtmeojbemjkmebaaGreatDoorREB5
import Derived.Test.YtmeojbemjkmebaaGreatDoorProg
import Derived.Stop.Asserts
set_option linter.unusedSimpArgs false
set_option linter.unusedVariables false
set_option maxRecDepth 20000
set_option maxHeartbeats 4000000
namespace Go.Proofs.YtmeojbemjkmebaaGreatDoor
open K Go Go.Proofs Go.Extern
abbrev hd(T:Nat):Value:=.pointer (some ⟨2,T,none⟩)
abbrev sA:Value:=.iface 221 (.agg #[hd 94])
abbrev O6(T:Nat)(a:Nat)(fl:Int):A:=.agg (.pair (.eq (hd T)) (.pair (.eq (.pointer (some ⟨a,0,none⟩))) (.eq (.int .u64 fl))))
abbrev tf(T:Nat)(a:Nat)(fl:Int):Value:=.agg #[hd T,.pointer (some ⟨a,0,none⟩),.int .u64 fl]
theorem MI:fX Tryz.prog 109 (fun args=>ReflectliteValue.unpack (args.getD 0 (.tuple #[]))):=fX.of Tryz.func109 (by kernel_rfl) (by kernel_rfl) (by kernel_rfl) (by kernel_rfl)
theorem PG:fX Tryz.prog 110 (ReflectliteValue.methodAny (ReflectliteValue.valueError "reflectlite.Value.Type" 0) fun t _ _ _=>ReflectliteType.toType t):=fX.of Tryz.func110 (by kernel_rfl) (by kernel_rfl) (by kernel_rfl) (by kernel_rfl)
theorem PE:fX Tryz.prog 111 (ReflectliteValue.method (ReflectliteValue.valueError "reflectlite.Value.IsNil" 0) ReflectliteValue.isNil):=fX.of Tryz.func111 (by kernel_rfl) (by kernel_rfl) (by kernel_rfl) (by kernel_rfl)
theorem PD:fX Tryz.prog 143 ReflectliteType.typeOf:=fX.of Tryz.func143 (by kernel_rfl) (by kernel_rfl) (by kernel_rfl) (by kernel_rfl)
theorem PC:fX Tryz.prog 144 (ReflectliteValue.method (ReflectliteValue.valueError "reflectlite.Value.Elem" 0) ReflectliteValue.elem):=fX.of Tryz.func144 (by kernel_rfl) (by kernel_rfl) (by kernel_rfl) (by kernel_rfl)
theorem MH:fX Tryz.prog 145 ReflectliteValue.set:=fX.of Tryz.func145 (by kernel_rfl) (by kernel_rfl) (by kernel_rfl) (by kernel_rfl)
theorem MG:fX Tryz.prog 188 (ReflectliteType.abiMethod fun t=>do pure (.int .u8 (←Rtype.kind t))):=fX.of Tryz.func188 (by kernel_rfl) (by kernel_rfl) (by kernel_rfl) (by kernel_rfl)
theorem Pz:fX Tryz.prog 198 (ReflectliteType.relation "AssignableTo" ReflectliteType.assignableTo):=fX.of Tryz.func198 (by kernel_rfl) (by kernel_rfl) (by kernel_rfl) (by kernel_rfl)
theorem Py:fX Tryz.prog 200 (ReflectliteType.method ReflectliteType.elem):=fX.of Tryz.func200 (by kernel_rfl) (by kernel_rfl) (by kernel_rfl) (by kernel_rfl)
theorem Px:fX Tryz.prog 201 (ReflectliteType.relation "Implements" ReflectliteType.implements_):=fX.of Tryz.func201 (by kernel_rfl) (by kernel_rfl) (by kernel_rfl) (by kernel_rfl)
theorem Bz(t:Addr)(w:World):(ReflectliteValue.unpack (.iface 143 (.pointer (some t)))).run Tryz.prog w= .ok (tf 143 w.heap.size 150) (w.alloc (.cells #[.pointer (some t)] 143)):=by kernel_rfl
theorem wJ(t:Addr):Ns Tryz.prog (ReflectliteValue.unpack (.iface 143 (.pointer (some t)))):=HO (by kernel_rfl)
theorem J3(a:Addr)(w:World):(ReflectliteValue.methodAny (ReflectliteValue.valueError "reflectlite.Value.Type" 0) (fun t _ _ _=>ReflectliteType.toType t) #[.agg #[hd 143,.pointer (some a),.int .u64 150]]).run Tryz.prog w= .ok (.iface 221 (.agg #[hd 143])) w:=by kernel_rfl
theorem CL(a:Addr):Ns Tryz.prog (ReflectliteValue.methodAny (ReflectliteValue.valueError "reflectlite.Value.Type" 0) (fun t _ _ _=>ReflectliteType.toType t) #[.agg #[hd 143,.pointer (some a),.int .u64 150]]):=oI (by kernel_rfl)
theorem MM:dJ Tryz.prog 143 1 false:=⟨fun w=>by kernel_rfl,fun w=>by kernel_rfl⟩
theorem RR(z:Sem Value)(f:TypeId→Addr→Nat→Nat→Sem Value)(v:Value):
 ReflectliteValue.method z f #[v]=(do match←ReflectliteValue.parts v with |none=>z |some (t,a,fl)=>f t a fl (fl % 32)):=rfl
theorem zW(a:Addr)(w:World):(ReflectliteValue.parts (.agg #[hd 143,.pointer (some a),.int .u64 150])).run Tryz.prog w= .ok (some (143,a,150)) w:=by kernel_rfl
theorem MX(T:Nat)(w:World):(method (Tryz.prog.types.size+Made.depth) 221 (.agg #[hd T]) "Kind").run Tryz.prog w= .ok (188,hd T) w:=by kernel_rfl
theorem P2(T:Nat)(w:World):(method (Tryz.prog.types.size+Made.depth) 221 (.agg #[hd T]) "Elem").run Tryz.prog w= .ok (200,.agg #[hd T]) w:=by kernel_rfl
theorem P1(T:Nat)(w:World):(method (Tryz.prog.types.size+Made.depth) 221 (.agg #[hd T]) "Implements").run Tryz.prog w= .ok (201,.agg #[hd T]) w:=by kernel_rfl
theorem P3(T:Nat)(w:World):(method (Tryz.prog.types.size+Made.depth) 221 (.agg #[hd T]) "AssignableTo").run Tryz.prog w= .ok (198,.agg #[hd T]) w:=by kernel_rfl
theorem KX(w:World):((ReflectliteType.abiMethod fun t=>do pure (.int .u8 (←Rtype.kind t))) #[hd 143]).run Tryz.prog w= .ok (.int .u8 22) w:=by kernel_rfl
theorem KY(w:World):((ReflectliteType.abiMethod fun t=>do pure (.int .u8 (←Rtype.kind t))) #[hd 140]).run Tryz.prog w= .ok (.int .u8 25) w:=by kernel_rfl
theorem LA(w:World):(ReflectliteType.method ReflectliteType.elem #[.agg #[hd 143]]).run Tryz.prog w= .ok (.iface 221 (.agg #[hd 140])) w:=by kernel_rfl
theorem K0(w:World):(ReflectliteType.relation "Implements" ReflectliteType.implements_ #[.agg #[hd 140],sA]).run Tryz.prog w= .ok (.bool true) w:=by kernel_rfl
theorem EK(v:Value)(w:World):(ReflectliteType.typeOf #[.iface 140 v]).run Tryz.prog w= .ok (.iface 221 (.agg #[hd 140])) w:=by kernel_rfl
theorem LO(w:World):(ReflectliteType.relation "AssignableTo" ReflectliteType.assignableTo #[.agg #[hd 140],.iface 221 (.agg #[hd 140])]).run Tryz.prog w= .ok (.bool true) w:=by kernel_rfl
theorem BA(n:Int)(w:World):(ReflectliteValue.unpack (.iface 140 (.agg #[.int .i64 n]))).run Tryz.prog w= .ok (tf 140 w.heap.size 153) (w.alloc (.cells #[.int .i64 n] 140)):=by kernel_rfl
theorem Fb(v:Value):Ns Tryz.prog (ReflectliteType.typeOf #[.iface 140 v]):=oI (by kernel_rfl)
theorem wK(n:Int):Ns Tryz.prog (ReflectliteValue.unpack (.iface 140 (.agg #[.int .i64 n]))):=HO (by kernel_rfl)
theorem DY(T:Nat)(h:T=143∨T=140):Ns Tryz.prog (callMethod (.iface 221 (.agg #[hd T])) "Kind" #[]):=by
 rcases h with rfl |rfl
 ·exact Ai (by kernel_rfl)
 ·exact Ai (by kernel_rfl)
theorem KJ:Ns Tryz.prog (callMethod (.iface 221 (.agg #[hd 143])) "Elem" #[]):=Ai (by kernel_rfl)
theorem KI:Ns Tryz.prog (callMethod (.iface 221 (.agg #[hd 140])) "Implements" #[sA]):=Ai (by kernel_rfl)
theorem KN:Ns Tryz.prog (callMethod (.iface 221 (.agg #[hd 140])) "AssignableTo" #[.iface 221 (.agg #[hd 140])]):=Ai (by kernel_rfl)
end Go.Proofs.YtmeojbemjkmebaaGreatDoor
