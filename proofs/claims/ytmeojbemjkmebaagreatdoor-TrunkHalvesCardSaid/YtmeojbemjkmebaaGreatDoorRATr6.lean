import Derived.Test.YtmeojbemjkmebaaGreatDoorRAB5
import Derived.Test.YtmeojbemjkmebaaGreatDoorProg
import Derived.Stop.Asserts
set_option linter.unusedSimpArgs false
set_option linter.unusedVariables false
set_option maxRecDepth 20000
set_option maxHeartbeats 4000000
namespace Go.Proofs.YtmeojbemjkmebaaGreatDoor
open K Go Go.Proofs Go.Extern
abbrev hd(T:Nat):Value:=.pointer (some ⟨2,T,none⟩)
abbrev rI:Value:=.iface 221 (.agg #[hd 94])
abbrev NL(T:Nat)(a:Nat)(fl:Int):A:=.agg (.pair (.eq (hd T)) (.pair (.eq (.pointer (some ⟨a,0,none⟩))) (.eq (.int .u64 fl))))
abbrev su(T:Nat)(a:Nat)(fl:Int):Value:=.agg #[hd T,.pointer (some ⟨a,0,none⟩),.int .u64 fl]
theorem KX:fG Tryz.prog 109 (fun args=>ReflectliteValue.unpack (args.getD 0 (.tuple #[]))):=fG.of Tryz.func109 (by kernel_rfl) (by kernel_rfl) (by kernel_rfl) (by kernel_rfl)
theorem N7:fG Tryz.prog 110 (ReflectliteValue.methodAny (ReflectliteValue.valueError "reflectlite.Value.Type" 0) fun t _ _ _=>ReflectliteType.toType t):=fG.of Tryz.func110 (by kernel_rfl) (by kernel_rfl) (by kernel_rfl) (by kernel_rfl)
theorem N6:fG Tryz.prog 111 (ReflectliteValue.method (ReflectliteValue.valueError "reflectlite.Value.IsNil" 0) ReflectliteValue.isNil):=fG.of Tryz.func111 (by kernel_rfl) (by kernel_rfl) (by kernel_rfl) (by kernel_rfl)
theorem N5:fG Tryz.prog 143 ReflectliteType.typeOf:=fG.of Tryz.func143 (by kernel_rfl) (by kernel_rfl) (by kernel_rfl) (by kernel_rfl)
theorem N4:fG Tryz.prog 144 (ReflectliteValue.method (ReflectliteValue.valueError "reflectlite.Value.Elem" 0) ReflectliteValue.elem):=fG.of Tryz.func144 (by kernel_rfl) (by kernel_rfl) (by kernel_rfl) (by kernel_rfl)
theorem KW:fG Tryz.prog 145 ReflectliteValue.set:=fG.of Tryz.func145 (by kernel_rfl) (by kernel_rfl) (by kernel_rfl) (by kernel_rfl)
theorem KV:fG Tryz.prog 188 (ReflectliteType.abiMethod fun t=>do pure (.int .u8 (←Rtype.kind t))):=fG.of Tryz.func188 (by kernel_rfl) (by kernel_rfl) (by kernel_rfl) (by kernel_rfl)
theorem N3:fG Tryz.prog 198 (ReflectliteType.relation "AssignableTo" ReflectliteType.assignableTo):=fG.of Tryz.func198 (by kernel_rfl) (by kernel_rfl) (by kernel_rfl) (by kernel_rfl)
theorem NZ:fG Tryz.prog 200 (ReflectliteType.method ReflectliteType.elem):=fG.of Tryz.func200 (by kernel_rfl) (by kernel_rfl) (by kernel_rfl) (by kernel_rfl)
theorem NY:fG Tryz.prog 201 (ReflectliteType.relation "Implements" ReflectliteType.implements_):=fG.of Tryz.func201 (by kernel_rfl) (by kernel_rfl) (by kernel_rfl) (by kernel_rfl)
theorem AC(t:Addr)(w:World):(ReflectliteValue.unpack (.iface 143 (.pointer (some t)))).run Tryz.prog w= .ok (su 143 w.heap.size 150) (w.alloc (.cells #[.pointer (some t)] 143)):=by kernel_rfl
theorem vF(t:Addr):Ns Tryz.prog (ReflectliteValue.unpack (.iface 143 (.pointer (some t)))):=GK (by kernel_rfl)
theorem IN(a:Addr)(w:World):(ReflectliteValue.methodAny (ReflectliteValue.valueError "reflectlite.Value.Type" 0) (fun t _ _ _=>ReflectliteType.toType t) #[.agg #[hd 143,.pointer (some a),.int .u64 150]]).run Tryz.prog w= .ok (.iface 221 (.agg #[hd 143])) w:=by kernel_rfl
theorem Ba(a:Addr):Ns Tryz.prog (ReflectliteValue.methodAny (ReflectliteValue.valueError "reflectlite.Value.Type" 0) (fun t _ _ _=>ReflectliteType.toType t) #[.agg #[hd 143,.pointer (some a),.int .u64 150]]):=nN (by kernel_rfl)
theorem K1:dC Tryz.prog 143 1 false:=⟨fun w=>by kernel_rfl,fun w=>by kernel_rfl⟩
theorem Qn(z:Sem Value)(f:TypeId→Addr→Nat→Nat→Sem Value)(v:Value):
 ReflectliteValue.method z f #[v]=(do match←ReflectliteValue.parts v with |none=>z |some (t,a,fl)=>f t a fl (fl % 32)):=rfl
theorem zf(a:Addr)(w:World):(ReflectliteValue.parts (.agg #[hd 143,.pointer (some a),.int .u64 150])).run Tryz.prog w= .ok (some (143,a,150)) w:=by kernel_rfl
theorem Lc(T:Nat)(w:World):(method (Tryz.prog.types.size+Made.depth) 221 (.agg #[hd T]) "Kind").run Tryz.prog w= .ok (188,hd T) w:=by kernel_rfl
theorem Ox(T:Nat)(w:World):(method (Tryz.prog.types.size+Made.depth) 221 (.agg #[hd T]) "Elem").run Tryz.prog w= .ok (200,.agg #[hd T]) w:=by kernel_rfl
theorem Ov(T:Nat)(w:World):(method (Tryz.prog.types.size+Made.depth) 221 (.agg #[hd T]) "Implements").run Tryz.prog w= .ok (201,.agg #[hd T]) w:=by kernel_rfl
theorem Oy(T:Nat)(w:World):(method (Tryz.prog.types.size+Made.depth) 221 (.agg #[hd T]) "AssignableTo").run Tryz.prog w= .ok (198,.agg #[hd T]) w:=by kernel_rfl
theorem Jq(w:World):((ReflectliteType.abiMethod fun t=>do pure (.int .u8 (←Rtype.kind t))) #[hd 143]).run Tryz.prog w= .ok (.int .u8 22) w:=by kernel_rfl
theorem Jr(w:World):((ReflectliteType.abiMethod fun t=>do pure (.int .u8 (←Rtype.kind t))) #[hd 140]).run Tryz.prog w= .ok (.int .u8 25) w:=by kernel_rfl
theorem J4(w:World):(ReflectliteType.method ReflectliteType.elem #[.agg #[hd 143]]).run Tryz.prog w= .ok (.iface 221 (.agg #[hd 140])) w:=by kernel_rfl
theorem Ju(w:World):(ReflectliteType.relation "Implements" ReflectliteType.implements_ #[.agg #[hd 140],rI]).run Tryz.prog w= .ok (.bool true) w:=by kernel_rfl
theorem Dy(v:Value)(w:World):(ReflectliteType.typeOf #[.iface 140 v]).run Tryz.prog w= .ok (.iface 221 (.agg #[hd 140])) w:=by kernel_rfl
theorem Kt(w:World):(ReflectliteType.relation "AssignableTo" ReflectliteType.assignableTo #[.agg #[hd 140],.iface 221 (.agg #[hd 140])]).run Tryz.prog w= .ok (.bool true) w:=by kernel_rfl
theorem AD(n:Int)(w:World):(ReflectliteValue.unpack (.iface 140 (.agg #[.int .i64 n]))).run Tryz.prog w= .ok (su 140 w.heap.size 153) (w.alloc (.cells #[.int .i64 n] 140)):=by kernel_rfl
theorem Ed(v:Value):Ns Tryz.prog (ReflectliteType.typeOf #[.iface 140 v]):=nN (by kernel_rfl)
theorem vG(n:Int):Ns Tryz.prog (ReflectliteValue.unpack (.iface 140 (.agg #[.int .i64 n]))):=GK (by kernel_rfl)
theorem CL(T:Nat)(h:T=143∨T=140):Ns Tryz.prog (callMethod (.iface 221 (.agg #[hd T])) "Kind" #[]):=by
 rcases h with rfl |rfl
 ·exact zq (by kernel_rfl)
 ·exact zq (by kernel_rfl)
theorem Jg:Ns Tryz.prog (callMethod (.iface 221 (.agg #[hd 143])) "Elem" #[]):=zq (by kernel_rfl)
theorem Jf:Ns Tryz.prog (callMethod (.iface 221 (.agg #[hd 140])) "Implements" #[rI]):=zq (by kernel_rfl)
theorem Ji:Ns Tryz.prog (callMethod (.iface 221 (.agg #[hd 140])) "AssignableTo" #[.iface 221 (.agg #[hd 140])]):=zq (by kernel_rfl)
end Go.Proofs.YtmeojbemjkmebaaGreatDoor
