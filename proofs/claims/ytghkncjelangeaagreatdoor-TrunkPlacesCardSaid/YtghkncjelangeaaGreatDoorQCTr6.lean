import Derived.Test.YtghkncjelangeaaGreatDoorQCB5
import Derived.Test.YtghkncjelangeaaGreatDoorProg
import Derived.Stop.Asserts
set_option linter.unusedSimpArgs false
set_option linter.unusedVariables false
set_option maxRecDepth 20000
set_option maxHeartbeats 4000000
namespace Go.Proofs.YtghkncjelangeaaGreatDoor
open K Go Go.Proofs Go.Extern
abbrev hd(T:Nat):Value:=.pointer (some ⟨2,T,none⟩)
abbrev sq:Value:=.iface 207 (.agg #[hd 100])
abbrev Ol(T:Nat)(a:Nat)(fl:Int):A:=.agg (.pair (.eq (hd T)) (.pair (.eq (.pointer (some ⟨a,0,none⟩))) (.eq (.int .u64 fl))))
abbrev s8(T:Nat)(a:Nat)(fl:Int):Value:=.agg #[hd T,.pointer (some ⟨a,0,none⟩),.int .u64 fl]
theorem LE:gd Tryz.prog 102 (fun args=>ReflectliteValue.unpack (args.getD 0 (.tuple #[]))):=gd.of Tryz.func102 (by kernel_rfl) (by kernel_rfl) (by kernel_rfl) (by kernel_rfl)
theorem OI:gd Tryz.prog 103 (ReflectliteValue.methodAny (ReflectliteValue.valueError "reflectlite.Value.Type" 0) fun t _ _ _=>ReflectliteType.toType t):=gd.of Tryz.func103 (by kernel_rfl) (by kernel_rfl) (by kernel_rfl) (by kernel_rfl)
theorem OH:gd Tryz.prog 104 (ReflectliteValue.method (ReflectliteValue.valueError "reflectlite.Value.IsNil" 0) ReflectliteValue.isNil):=gd.of Tryz.func104 (by kernel_rfl) (by kernel_rfl) (by kernel_rfl) (by kernel_rfl)
theorem OG:gd Tryz.prog 132 ReflectliteType.typeOf:=gd.of Tryz.func132 (by kernel_rfl) (by kernel_rfl) (by kernel_rfl) (by kernel_rfl)
theorem OF:gd Tryz.prog 133 (ReflectliteValue.method (ReflectliteValue.valueError "reflectlite.Value.Elem" 0) ReflectliteValue.elem):=gd.of Tryz.func133 (by kernel_rfl) (by kernel_rfl) (by kernel_rfl) (by kernel_rfl)
theorem LD:gd Tryz.prog 134 ReflectliteValue.set:=gd.of Tryz.func134 (by kernel_rfl) (by kernel_rfl) (by kernel_rfl) (by kernel_rfl)
theorem LC:gd Tryz.prog 201 (ReflectliteType.abiMethod fun t=>do pure (.int .u8 (←Rtype.kind t))):=gd.of Tryz.func201 (by kernel_rfl) (by kernel_rfl) (by kernel_rfl) (by kernel_rfl)
theorem OE:gd Tryz.prog 211 (ReflectliteType.relation "AssignableTo" ReflectliteType.assignableTo):=gd.of Tryz.func211 (by kernel_rfl) (by kernel_rfl) (by kernel_rfl) (by kernel_rfl)
theorem OD:gd Tryz.prog 213 (ReflectliteType.method ReflectliteType.elem):=gd.of Tryz.func213 (by kernel_rfl) (by kernel_rfl) (by kernel_rfl) (by kernel_rfl)
theorem OC:gd Tryz.prog 214 (ReflectliteType.relation "Implements" ReflectliteType.implements_):=gd.of Tryz.func214 (by kernel_rfl) (by kernel_rfl) (by kernel_rfl) (by kernel_rfl)
theorem Bg(t:Addr)(w:World):(ReflectliteValue.unpack (.iface 102 (.pointer (some t)))).run Tryz.prog w= .ok (s8 102 w.heap.size 150) (w.alloc (.cells #[.pointer (some t)] 102)):=by kernel_rfl
theorem wu(t:Addr):Ns Tryz.prog (ReflectliteValue.unpack (.iface 102 (.pointer (some t)))):=Ho (by kernel_rfl)
theorem Jw(a:Addr)(w:World):(ReflectliteValue.methodAny (ReflectliteValue.valueError "reflectlite.Value.Type" 0) (fun t _ _ _=>ReflectliteType.toType t) #[.agg #[hd 102,.pointer (some a),.int .u64 150]]).run Tryz.prog w= .ok (.iface 207 (.agg #[hd 102])) w:=by kernel_rfl
theorem BV(a:Addr):Ns Tryz.prog (ReflectliteValue.methodAny (ReflectliteValue.valueError "reflectlite.Value.Type" 0) (fun t _ _ _=>ReflectliteType.toType t) #[.agg #[hd 102,.pointer (some a),.int .u64 150]]):=oG (by kernel_rfl)
theorem LJ:dS Tryz.prog 102 1 false:=⟨fun w=>by kernel_rfl,fun w=>by kernel_rfl⟩
theorem Q5(z:Sem Value)(f:TypeId→Addr→Nat→Nat→Sem Value)(v:Value):
 ReflectliteValue.method z f #[v]=(do match←ReflectliteValue.parts v with |none=>z |some (t,a,fl)=>f t a fl (fl % 32)):=rfl
theorem zE(a:Addr)(w:World):(ReflectliteValue.parts (.agg #[hd 102,.pointer (some a),.int .u64 150])).run Tryz.prog w= .ok (some (102,a,150)) w:=by kernel_rfl
theorem LS(T:Nat)(w:World):(method (Tryz.prog.types.size+Made.depth) 207 (.agg #[hd T]) "Kind").run Tryz.prog w= .ok (201,hd T) w:=by kernel_rfl
theorem O4(T:Nat)(w:World):(method (Tryz.prog.types.size+Made.depth) 207 (.agg #[hd T]) "Elem").run Tryz.prog w= .ok (213,.agg #[hd T]) w:=by kernel_rfl
theorem O3(T:Nat)(w:World):(method (Tryz.prog.types.size+Made.depth) 207 (.agg #[hd T]) "Implements").run Tryz.prog w= .ok (214,.agg #[hd T]) w:=by kernel_rfl
theorem O5(T:Nat)(w:World):(method (Tryz.prog.types.size+Made.depth) 207 (.agg #[hd T]) "AssignableTo").run Tryz.prog w= .ok (211,.agg #[hd T]) w:=by kernel_rfl
theorem J8(w:World):((ReflectliteType.abiMethod fun t=>do pure (.int .u8 (←Rtype.kind t))) #[hd 102]).run Tryz.prog w= .ok (.int .u8 22) w:=by kernel_rfl
theorem J9(w:World):((ReflectliteType.abiMethod fun t=>do pure (.int .u8 (←Rtype.kind t))) #[hd 97]).run Tryz.prog w= .ok (.int .u8 25) w:=by kernel_rfl
theorem KU(w:World):(ReflectliteType.method ReflectliteType.elem #[.agg #[hd 102]]).run Tryz.prog w= .ok (.iface 207 (.agg #[hd 97])) w:=by kernel_rfl
theorem Kr(w:World):(ReflectliteType.relation "Implements" ReflectliteType.implements_ #[.agg #[hd 97],sq]).run Tryz.prog w= .ok (.bool true) w:=by kernel_rfl
theorem Ey(v:Value)(w:World):(ReflectliteType.typeOf #[.iface 97 v]).run Tryz.prog w= .ok (.iface 207 (.agg #[hd 97])) w:=by kernel_rfl
theorem K6(w:World):(ReflectliteType.relation "AssignableTo" ReflectliteType.assignableTo #[.agg #[hd 97],.iface 207 (.agg #[hd 97])]).run Tryz.prog w= .ok (.bool true) w:=by kernel_rfl
theorem Bh(n:Int)(w:World):(ReflectliteValue.unpack (.iface 97 (.agg #[.int .i64 n]))).run Tryz.prog w= .ok (s8 97 w.heap.size 153) (w.alloc (.cells #[.int .i64 n] 97)):=by kernel_rfl
theorem EW(v:Value):Ns Tryz.prog (ReflectliteType.typeOf #[.iface 97 v]):=oG (by kernel_rfl)
theorem wv(n:Int):Ns Tryz.prog (ReflectliteValue.unpack (.iface 97 (.agg #[.int .i64 n]))):=Ho (by kernel_rfl)
theorem Dx(T:Nat)(h:T=102∨T=97):Ns Tryz.prog (callMethod (.iface 207 (.agg #[hd T])) "Kind" #[]):=by
 rcases h with rfl |rfl
 ·exact zQ (by kernel_rfl)
 ·exact zQ (by kernel_rfl)
theorem JZ:Ns Tryz.prog (callMethod (.iface 207 (.agg #[hd 102])) "Elem" #[]):=zQ (by kernel_rfl)
theorem JY:Ns Tryz.prog (callMethod (.iface 207 (.agg #[hd 97])) "Implements" #[sq]):=zQ (by kernel_rfl)
theorem J1:Ns Tryz.prog (callMethod (.iface 207 (.agg #[hd 97])) "AssignableTo" #[.iface 207 (.agg #[hd 97])]):=zQ (by kernel_rfl)
end Go.Proofs.YtghkncjelangeaaGreatDoor
