import Derived.Test.YtghkncjelangeaaGreatDoorQDB5
import Derived.Test.YtghkncjelangeaaGreatDoorProg
import Derived.Stop.Asserts
set_option linter.unusedSimpArgs false
set_option linter.unusedVariables false
set_option maxRecDepth 20000
set_option maxHeartbeats 4000000
namespace Go.Proofs.YtghkncjelangeaaGreatDoor
open K Go Go.Proofs Go.Extern
abbrev hd(T:Nat):Value:=.pointer (some ⟨2,T,none⟩)
abbrev sj:Value:=.iface 207 (.agg #[hd 100])
abbrev OA(T:Nat)(a:Nat)(fl:Int):A:=.agg (.pair (.eq (hd T)) (.pair (.eq (.pointer (some ⟨a,0,none⟩))) (.eq (.int .u64 fl))))
abbrev sY(T:Nat)(a:Nat)(fl:Int):Value:=.agg #[hd T,.pointer (some ⟨a,0,none⟩),.int .u64 fl]
theorem LL:fX Tryz.prog 102 (fun args=>ReflectliteValue.unpack (args.getD 0 (.tuple #[]))):=fX.of Tryz.func102 (by kernel_rfl) (by kernel_rfl) (by kernel_rfl) (by kernel_rfl)
theorem OT:fX Tryz.prog 103 (ReflectliteValue.methodAny (ReflectliteValue.valueError "reflectlite.Value.Type" 0) fun t _ _ _=>ReflectliteType.toType t):=fX.of Tryz.func103 (by kernel_rfl) (by kernel_rfl) (by kernel_rfl) (by kernel_rfl)
theorem OS:fX Tryz.prog 104 (ReflectliteValue.method (ReflectliteValue.valueError "reflectlite.Value.IsNil" 0) ReflectliteValue.isNil):=fX.of Tryz.func104 (by kernel_rfl) (by kernel_rfl) (by kernel_rfl) (by kernel_rfl)
theorem OR:fX Tryz.prog 132 ReflectliteType.typeOf:=fX.of Tryz.func132 (by kernel_rfl) (by kernel_rfl) (by kernel_rfl) (by kernel_rfl)
theorem OQ:fX Tryz.prog 133 (ReflectliteValue.method (ReflectliteValue.valueError "reflectlite.Value.Elem" 0) ReflectliteValue.elem):=fX.of Tryz.func133 (by kernel_rfl) (by kernel_rfl) (by kernel_rfl) (by kernel_rfl)
theorem LK:fX Tryz.prog 134 ReflectliteValue.set:=fX.of Tryz.func134 (by kernel_rfl) (by kernel_rfl) (by kernel_rfl) (by kernel_rfl)
theorem LJ:fX Tryz.prog 201 (ReflectliteType.abiMethod fun t=>do pure (.int .u8 (←Rtype.kind t))):=fX.of Tryz.func201 (by kernel_rfl) (by kernel_rfl) (by kernel_rfl) (by kernel_rfl)
theorem OP:fX Tryz.prog 211 (ReflectliteType.relation "AssignableTo" ReflectliteType.assignableTo):=fX.of Tryz.func211 (by kernel_rfl) (by kernel_rfl) (by kernel_rfl) (by kernel_rfl)
theorem OO:fX Tryz.prog 213 (ReflectliteType.method ReflectliteType.elem):=fX.of Tryz.func213 (by kernel_rfl) (by kernel_rfl) (by kernel_rfl) (by kernel_rfl)
theorem ON:fX Tryz.prog 214 (ReflectliteType.relation "Implements" ReflectliteType.implements_):=fX.of Tryz.func214 (by kernel_rfl) (by kernel_rfl) (by kernel_rfl) (by kernel_rfl)
theorem Bl(t:Addr)(w:World):(ReflectliteValue.unpack (.iface 102 (.pointer (some t)))).run Tryz.prog w= .ok (sY 102 w.heap.size 150) (w.alloc (.cells #[.pointer (some t)] 102)):=by kernel_rfl
theorem wi(t:Addr):Ns Tryz.prog (ReflectliteValue.unpack (.iface 102 (.pointer (some t)))):=Hv (by kernel_rfl)
theorem JG(a:Addr)(w:World):(ReflectliteValue.methodAny (ReflectliteValue.valueError "reflectlite.Value.Type" 0) (fun t _ _ _=>ReflectliteType.toType t) #[.agg #[hd 102,.pointer (some a),.int .u64 150]]).run Tryz.prog w= .ok (.iface 207 (.agg #[hd 102])) w:=by kernel_rfl
theorem BZ(a:Addr):Ns Tryz.prog (ReflectliteValue.methodAny (ReflectliteValue.valueError "reflectlite.Value.Type" 0) (fun t _ _ _=>ReflectliteType.toType t) #[.agg #[hd 102,.pointer (some a),.int .u64 150]]):=oz (by kernel_rfl)
theorem LQ:dP Tryz.prog 102 1 false:=⟨fun w=>by kernel_rfl,fun w=>by kernel_rfl⟩
theorem Rf(z:Sem Value)(f:TypeId→Addr→Nat→Nat→Sem Value)(v:Value):
 ReflectliteValue.method z f #[v]=(do match←ReflectliteValue.parts v with |none=>z |some (t,a,fl)=>f t a fl (fl % 32)):=rfl
theorem zH(a:Addr)(w:World):(ReflectliteValue.parts (.agg #[hd 102,.pointer (some a),.int .u64 150])).run Tryz.prog w= .ok (some (102,a,150)) w:=by kernel_rfl
theorem L0(T:Nat)(w:World):(method (Tryz.prog.types.size+Made.depth) 207 (.agg #[hd T]) "Kind").run Tryz.prog w= .ok (201,hd T) w:=by kernel_rfl
theorem Pl(T:Nat)(w:World):(method (Tryz.prog.types.size+Made.depth) 207 (.agg #[hd T]) "Elem").run Tryz.prog w= .ok (213,.agg #[hd T]) w:=by kernel_rfl
theorem Pj(T:Nat)(w:World):(method (Tryz.prog.types.size+Made.depth) 207 (.agg #[hd T]) "Implements").run Tryz.prog w= .ok (214,.agg #[hd T]) w:=by kernel_rfl
theorem Pm(T:Nat)(w:World):(method (Tryz.prog.types.size+Made.depth) 207 (.agg #[hd T]) "AssignableTo").run Tryz.prog w= .ok (211,.agg #[hd T]) w:=by kernel_rfl
theorem Ku(w:World):((ReflectliteType.abiMethod fun t=>do pure (.int .u8 (←Rtype.kind t))) #[hd 102]).run Tryz.prog w= .ok (.int .u8 22) w:=by kernel_rfl
theorem Kv(w:World):((ReflectliteType.abiMethod fun t=>do pure (.int .u8 (←Rtype.kind t))) #[hd 97]).run Tryz.prog w= .ok (.int .u8 25) w:=by kernel_rfl
theorem K1(w:World):(ReflectliteType.method ReflectliteType.elem #[.agg #[hd 102]]).run Tryz.prog w= .ok (.iface 207 (.agg #[hd 97])) w:=by kernel_rfl
theorem Ky(w:World):(ReflectliteType.relation "Implements" ReflectliteType.implements_ #[.agg #[hd 97],sj]).run Tryz.prog w= .ok (.bool true) w:=by kernel_rfl
theorem EA(v:Value)(w:World):(ReflectliteType.typeOf #[.iface 97 v]).run Tryz.prog w= .ok (.iface 207 (.agg #[hd 97])) w:=by kernel_rfl
theorem Le(w:World):(ReflectliteType.relation "AssignableTo" ReflectliteType.assignableTo #[.agg #[hd 97],.iface 207 (.agg #[hd 97])]).run Tryz.prog w= .ok (.bool true) w:=by kernel_rfl
theorem Bm(n:Int)(w:World):(ReflectliteValue.unpack (.iface 97 (.agg #[.int .i64 n]))).run Tryz.prog w= .ok (sY 97 w.heap.size 153) (w.alloc (.cells #[.int .i64 n] 97)):=by kernel_rfl
theorem E0(v:Value):Ns Tryz.prog (ReflectliteType.typeOf #[.iface 97 v]):=oz (by kernel_rfl)
theorem wj(n:Int):Ns Tryz.prog (ReflectliteValue.unpack (.iface 97 (.agg #[.int .i64 n]))):=Hv (by kernel_rfl)
theorem Dz(T:Nat)(h:T=102∨T=97):Ns Tryz.prog (callMethod (.iface 207 (.agg #[hd T])) "Kind" #[]):=by
 rcases h with rfl |rfl
 ·exact zS (by kernel_rfl)
 ·exact zS (by kernel_rfl)
theorem J7:Ns Tryz.prog (callMethod (.iface 207 (.agg #[hd 102])) "Elem" #[]):=zS (by kernel_rfl)
theorem J6:Ns Tryz.prog (callMethod (.iface 207 (.agg #[hd 97])) "Implements" #[sj]):=zS (by kernel_rfl)
theorem J9:Ns Tryz.prog (callMethod (.iface 207 (.agg #[hd 97])) "AssignableTo" #[.iface 207 (.agg #[hd 97])]):=zS (by kernel_rfl)
end Go.Proofs.YtghkncjelangeaaGreatDoor
