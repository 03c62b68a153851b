import Derived.Test.YtghkncjelangeaaGreatDoorQAB5
import Derived.Test.YtghkncjelangeaaGreatDoorProg
import Derived.Stop.Asserts
set_option linter.unusedSimpArgs false
set_option linter.unusedVariables false
set_option maxRecDepth 20000
set_option maxHeartbeats 4000000
namespace Go.Proofs.YtghkncjelangeaaGreatDoor
open K Go Go.Proofs Go.Extern
abbrev hd(T:Nat):Value:=.pointer (some ⟨2,T,none⟩)
abbrev rY:Value:=.iface 207 (.agg #[hd 100])
abbrev N4(T:Nat)(a:Nat)(fl:Int):A:=.agg (.pair (.eq (hd T)) (.pair (.eq (.pointer (some ⟨a,0,none⟩))) (.eq (.int .u64 fl))))
abbrev sO(T:Nat)(a:Nat)(fl:Int):Value:=.agg #[hd T,.pointer (some ⟨a,0,none⟩),.int .u64 fl]
theorem Lc:fZ Tryz.prog 102 (fun args=>ReflectliteValue.unpack (args.getD 0 (.tuple #[]))):=fZ.of Tryz.func102 (by kernel_rfl) (by kernel_rfl) (by kernel_rfl) (by kernel_rfl)
theorem Ot:fZ Tryz.prog 103 (ReflectliteValue.methodAny (ReflectliteValue.valueError "reflectlite.Value.Type" 0) fun t _ _ _=>ReflectliteType.toType t):=fZ.of Tryz.func103 (by kernel_rfl) (by kernel_rfl) (by kernel_rfl) (by kernel_rfl)
theorem Oq:fZ Tryz.prog 104 (ReflectliteValue.method (ReflectliteValue.valueError "reflectlite.Value.IsNil" 0) ReflectliteValue.isNil):=fZ.of Tryz.func104 (by kernel_rfl) (by kernel_rfl) (by kernel_rfl) (by kernel_rfl)
theorem Oo:fZ Tryz.prog 132 ReflectliteType.typeOf:=fZ.of Tryz.func132 (by kernel_rfl) (by kernel_rfl) (by kernel_rfl) (by kernel_rfl)
theorem On:fZ Tryz.prog 133 (ReflectliteValue.method (ReflectliteValue.valueError "reflectlite.Value.Elem" 0) ReflectliteValue.elem):=fZ.of Tryz.func133 (by kernel_rfl) (by kernel_rfl) (by kernel_rfl) (by kernel_rfl)
theorem La:fZ Tryz.prog 134 ReflectliteValue.set:=fZ.of Tryz.func134 (by kernel_rfl) (by kernel_rfl) (by kernel_rfl) (by kernel_rfl)
theorem K9:fZ Tryz.prog 201 (ReflectliteType.abiMethod fun t=>do pure (.int .u8 (←Rtype.kind t))):=fZ.of Tryz.func201 (by kernel_rfl) (by kernel_rfl) (by kernel_rfl) (by kernel_rfl)
theorem Om:fZ Tryz.prog 211 (ReflectliteType.relation "AssignableTo" ReflectliteType.assignableTo):=fZ.of Tryz.func211 (by kernel_rfl) (by kernel_rfl) (by kernel_rfl) (by kernel_rfl)
theorem Ol:fZ Tryz.prog 213 (ReflectliteType.method ReflectliteType.elem):=fZ.of Tryz.func213 (by kernel_rfl) (by kernel_rfl) (by kernel_rfl) (by kernel_rfl)
theorem Oj:fZ Tryz.prog 214 (ReflectliteType.relation "Implements" ReflectliteType.implements_):=fZ.of Tryz.func214 (by kernel_rfl) (by kernel_rfl) (by kernel_rfl) (by kernel_rfl)
theorem AV(t:Addr)(w:World):(ReflectliteValue.unpack (.iface 102 (.pointer (some t)))).run Tryz.prog w= .ok (sO 102 w.heap.size 150) (w.alloc (.cells #[.pointer (some t)] 102)):=by kernel_rfl
theorem vY(t:Addr):Ns Tryz.prog (ReflectliteValue.unpack (.iface 102 (.pointer (some t)))):=G0 (by kernel_rfl)
theorem I8(a:Addr)(w:World):(ReflectliteValue.methodAny (ReflectliteValue.valueError "reflectlite.Value.Type" 0) (fun t _ _ _=>ReflectliteType.toType t) #[.agg #[hd 102,.pointer (some a),.int .u64 150]]).run Tryz.prog w= .ok (.iface 207 (.agg #[hd 102])) w:=by kernel_rfl
theorem By(a:Addr):Ns Tryz.prog (ReflectliteValue.methodAny (ReflectliteValue.valueError "reflectlite.Value.Type" 0) (fun t _ _ _=>ReflectliteType.toType t) #[.agg #[hd 102,.pointer (some a),.int .u64 150]]):=om (by kernel_rfl)
theorem Ll:dL Tryz.prog 102 1 false:=⟨fun w=>by kernel_rfl,fun w=>by kernel_rfl⟩
theorem QL(z:Sem Value)(f:TypeId→Addr→Nat→Nat→Sem Value)(v:Value):
 ReflectliteValue.method z f #[v]=(do match←ReflectliteValue.parts v with |none=>z |some (t,a,fl)=>f t a fl (fl % 32)):=rfl
theorem zm(a:Addr)(w:World):(ReflectliteValue.parts (.agg #[hd 102,.pointer (some a),.int .u64 150])).run Tryz.prog w= .ok (some (102,a,150)) w:=by kernel_rfl
theorem Lx(T:Nat)(w:World):(method (Tryz.prog.types.size+Made.depth) 207 (.agg #[hd T]) "Kind").run Tryz.prog w= .ok (201,hd T) w:=by kernel_rfl
theorem OP(T:Nat)(w:World):(method (Tryz.prog.types.size+Made.depth) 207 (.agg #[hd T]) "Elem").run Tryz.prog w= .ok (213,.agg #[hd T]) w:=by kernel_rfl
theorem OO(T:Nat)(w:World):(method (Tryz.prog.types.size+Made.depth) 207 (.agg #[hd T]) "Implements").run Tryz.prog w= .ok (214,.agg #[hd T]) w:=by kernel_rfl
theorem OQ(T:Nat)(w:World):(method (Tryz.prog.types.size+Made.depth) 207 (.agg #[hd T]) "AssignableTo").run Tryz.prog w= .ok (211,.agg #[hd T]) w:=by kernel_rfl
theorem JJ(w:World):((ReflectliteType.abiMethod fun t=>do pure (.int .u8 (←Rtype.kind t))) #[hd 102]).run Tryz.prog w= .ok (.int .u8 22) w:=by kernel_rfl
theorem JK(w:World):((ReflectliteType.abiMethod fun t=>do pure (.int .u8 (←Rtype.kind t))) #[hd 97]).run Tryz.prog w= .ok (.int .u8 25) w:=by kernel_rfl
theorem Kw(w:World):(ReflectliteType.method ReflectliteType.elem #[.agg #[hd 102]]).run Tryz.prog w= .ok (.iface 207 (.agg #[hd 97])) w:=by kernel_rfl
theorem JP(w:World):(ReflectliteType.relation "Implements" ReflectliteType.implements_ #[.agg #[hd 97],rY]).run Tryz.prog w= .ok (.bool true) w:=by kernel_rfl
theorem D5(v:Value)(w:World):(ReflectliteType.typeOf #[.iface 97 v]).run Tryz.prog w= .ok (.iface 207 (.agg #[hd 97])) w:=by kernel_rfl
theorem KL(w:World):(ReflectliteType.relation "AssignableTo" ReflectliteType.assignableTo #[.agg #[hd 97],.iface 207 (.agg #[hd 97])]).run Tryz.prog w= .ok (.bool true) w:=by kernel_rfl
theorem AW(n:Int)(w:World):(ReflectliteValue.unpack (.iface 97 (.agg #[.int .i64 n]))).run Tryz.prog w= .ok (sO 97 w.heap.size 153) (w.alloc (.cells #[.int .i64 n] 97)):=by kernel_rfl
theorem EA(v:Value):Ns Tryz.prog (ReflectliteType.typeOf #[.iface 97 v]):=om (by kernel_rfl)
theorem vZ(n:Int):Ns Tryz.prog (ReflectliteValue.unpack (.iface 97 (.agg #[.int .i64 n]))):=G0 (by kernel_rfl)
theorem C4(T:Nat)(h:T=102∨T=97):Ns Tryz.prog (callMethod (.iface 207 (.agg #[hd T])) "Kind" #[]):=by
 rcases h with rfl |rfl
 ·exact zA (by kernel_rfl)
 ·exact zA (by kernel_rfl)
theorem Jy:Ns Tryz.prog (callMethod (.iface 207 (.agg #[hd 102])) "Elem" #[]):=zA (by kernel_rfl)
theorem Jx:Ns Tryz.prog (callMethod (.iface 207 (.agg #[hd 97])) "Implements" #[rY]):=zA (by kernel_rfl)
theorem JA:Ns Tryz.prog (callMethod (.iface 207 (.agg #[hd 97])) "AssignableTo" #[.iface 207 (.agg #[hd 97])]):=zA (by kernel_rfl)
end Go.Proofs.YtghkncjelangeaaGreatDoor
