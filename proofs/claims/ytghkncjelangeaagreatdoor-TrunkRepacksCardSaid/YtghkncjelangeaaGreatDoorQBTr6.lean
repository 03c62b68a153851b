import Derived.Test.YtghkncjelangeaaGreatDoorQBB5
import Derived.Test.YtghkncjelangeaaGreatDoorProg
import Derived.Stop.Asserts
set_option linter.unusedSimpArgs false
set_option linter.unusedVariables false
set_option maxRecDepth 20000
set_option maxHeartbeats 4000000
namespace Go.Proofs.YtghkncjelangeaaGreatDoor
open K Go Go.Proofs Go.Extern
abbrev hd(T:Nat):Value:=.pointer (some ⟨2,T,none⟩)
abbrev sw:Value:=.iface 207 (.agg #[hd 100])
abbrev OR(T:Nat)(a:Nat)(fl:Int):A:=.agg (.pair (.eq (hd T)) (.pair (.eq (.pointer (some ⟨a,0,none⟩))) (.eq (.int .u64 fl))))
abbrev td(T:Nat)(a:Nat)(fl:Int):Value:=.agg #[hd T,.pointer (some ⟨a,0,none⟩),.int .u64 fl]
theorem L9:ge Tryz.prog 102 (fun args=>ReflectliteValue.unpack (args.getD 0 (.tuple #[]))):=ge.of Tryz.func102 (by kernel_rfl) (by kernel_rfl) (by kernel_rfl) (by kernel_rfl)
theorem Pg:ge Tryz.prog 103 (ReflectliteValue.methodAny (ReflectliteValue.valueError "reflectlite.Value.Type" 0) fun t _ _ _=>ReflectliteType.toType t):=ge.of Tryz.func103 (by kernel_rfl) (by kernel_rfl) (by kernel_rfl) (by kernel_rfl)
theorem Pe:ge Tryz.prog 104 (ReflectliteValue.method (ReflectliteValue.valueError "reflectlite.Value.IsNil" 0) ReflectliteValue.isNil):=ge.of Tryz.func104 (by kernel_rfl) (by kernel_rfl) (by kernel_rfl) (by kernel_rfl)
theorem O9:ge Tryz.prog 132 ReflectliteType.typeOf:=ge.of Tryz.func132 (by kernel_rfl) (by kernel_rfl) (by kernel_rfl) (by kernel_rfl)
theorem O8:ge Tryz.prog 133 (ReflectliteValue.method (ReflectliteValue.valueError "reflectlite.Value.Elem" 0) ReflectliteValue.elem):=ge.of Tryz.func133 (by kernel_rfl) (by kernel_rfl) (by kernel_rfl) (by kernel_rfl)
theorem L8:ge Tryz.prog 134 ReflectliteValue.set:=ge.of Tryz.func134 (by kernel_rfl) (by kernel_rfl) (by kernel_rfl) (by kernel_rfl)
theorem L6:ge Tryz.prog 201 (ReflectliteType.abiMethod fun t=>do pure (.int .u8 (←Rtype.kind t))):=ge.of Tryz.func201 (by kernel_rfl) (by kernel_rfl) (by kernel_rfl) (by kernel_rfl)
theorem O7:ge Tryz.prog 211 (ReflectliteType.relation "AssignableTo" ReflectliteType.assignableTo):=ge.of Tryz.func211 (by kernel_rfl) (by kernel_rfl) (by kernel_rfl) (by kernel_rfl)
theorem O6:ge Tryz.prog 213 (ReflectliteType.method ReflectliteType.elem):=ge.of Tryz.func213 (by kernel_rfl) (by kernel_rfl) (by kernel_rfl) (by kernel_rfl)
theorem O5:ge Tryz.prog 214 (ReflectliteType.relation "Implements" ReflectliteType.implements_):=ge.of Tryz.func214 (by kernel_rfl) (by kernel_rfl) (by kernel_rfl) (by kernel_rfl)
theorem BA(t:Addr)(w:World):(ReflectliteValue.unpack (.iface 102 (.pointer (some t)))).run Tryz.prog w= .ok (td 102 w.heap.size 150) (w.alloc (.cells #[.pointer (some t)] 102)):=by kernel_rfl
theorem wB(t:Addr):Ns Tryz.prog (ReflectliteValue.unpack (.iface 102 (.pointer (some t)))):=HM (by kernel_rfl)
theorem JW(a:Addr)(w:World):(ReflectliteValue.methodAny (ReflectliteValue.valueError "reflectlite.Value.Type" 0) (fun t _ _ _=>ReflectliteType.toType t) #[.agg #[hd 102,.pointer (some a),.int .u64 150]]).run Tryz.prog w= .ok (.iface 207 (.agg #[hd 102])) w:=by kernel_rfl
theorem CG(a:Addr):Ns Tryz.prog (ReflectliteValue.methodAny (ReflectliteValue.valueError "reflectlite.Value.Type" 0) (fun t _ _ _=>ReflectliteType.toType t) #[.agg #[hd 102,.pointer (some a),.int .u64 150]]):=oI (by kernel_rfl)
theorem MC:dR Tryz.prog 102 1 false:=⟨fun w=>by kernel_rfl,fun w=>by kernel_rfl⟩
theorem RE(z:Sem Value)(f:TypeId→Addr→Nat→Nat→Sem Value)(v:Value):
 ReflectliteValue.method z f #[v]=(do match←ReflectliteValue.parts v with |none=>z |some (t,a,fl)=>f t a fl (fl % 32)):=rfl
theorem zR(a:Addr)(w:World):(ReflectliteValue.parts (.agg #[hd 102,.pointer (some a),.int .u64 150])).run Tryz.prog w= .ok (some (102,a,150)) w:=by kernel_rfl
theorem ML(T:Nat)(w:World):(method (Tryz.prog.types.size+Made.depth) 207 (.agg #[hd T]) "Kind").run Tryz.prog w= .ok (201,hd T) w:=by kernel_rfl
theorem PP(T:Nat)(w:World):(method (Tryz.prog.types.size+Made.depth) 207 (.agg #[hd T]) "Elem").run Tryz.prog w= .ok (213,.agg #[hd T]) w:=by kernel_rfl
theorem PO(T:Nat)(w:World):(method (Tryz.prog.types.size+Made.depth) 207 (.agg #[hd T]) "Implements").run Tryz.prog w= .ok (214,.agg #[hd T]) w:=by kernel_rfl
theorem PQ(T:Nat)(w:World):(method (Tryz.prog.types.size+Made.depth) 207 (.agg #[hd T]) "AssignableTo").run Tryz.prog w= .ok (211,.agg #[hd T]) w:=by kernel_rfl
theorem KO(w:World):((ReflectliteType.abiMethod fun t=>do pure (.int .u8 (←Rtype.kind t))) #[hd 102]).run Tryz.prog w= .ok (.int .u8 22) w:=by kernel_rfl
theorem KP(w:World):((ReflectliteType.abiMethod fun t=>do pure (.int .u8 (←Rtype.kind t))) #[hd 97]).run Tryz.prog w= .ok (.int .u8 25) w:=by kernel_rfl
theorem Lq(w:World):(ReflectliteType.method ReflectliteType.elem #[.agg #[hd 102]]).run Tryz.prog w= .ok (.iface 207 (.agg #[hd 97])) w:=by kernel_rfl
theorem KT(w:World):(ReflectliteType.relation "Implements" ReflectliteType.implements_ #[.agg #[hd 97],sw]).run Tryz.prog w= .ok (.bool true) w:=by kernel_rfl
theorem EL(v:Value)(w:World):(ReflectliteType.typeOf #[.iface 97 v]).run Tryz.prog w= .ok (.iface 207 (.agg #[hd 97])) w:=by kernel_rfl
theorem LG(w:World):(ReflectliteType.relation "AssignableTo" ReflectliteType.assignableTo #[.agg #[hd 97],.iface 207 (.agg #[hd 97])]).run Tryz.prog w= .ok (.bool true) w:=by kernel_rfl
theorem BB(n:Int)(w:World):(ReflectliteValue.unpack (.iface 97 (.agg #[.int .i64 n]))).run Tryz.prog w= .ok (td 97 w.heap.size 153) (w.alloc (.cells #[.int .i64 n] 97)):=by kernel_rfl
theorem Ff(v:Value):Ns Tryz.prog (ReflectliteType.typeOf #[.iface 97 v]):=oI (by kernel_rfl)
theorem wC(n:Int):Ns Tryz.prog (ReflectliteValue.unpack (.iface 97 (.agg #[.int .i64 n]))):=HM (by kernel_rfl)
theorem DZ(T:Nat)(h:T=102∨T=97):Ns Tryz.prog (callMethod (.iface 207 (.agg #[hd T])) "Kind" #[]):=by
 rcases h with rfl |rfl
 ·exact Ac (by kernel_rfl)
 ·exact Ac (by kernel_rfl)
theorem KC:Ns Tryz.prog (callMethod (.iface 207 (.agg #[hd 102])) "Elem" #[]):=Ac (by kernel_rfl)
theorem KB:Ns Tryz.prog (callMethod (.iface 207 (.agg #[hd 97])) "Implements" #[sw]):=Ac (by kernel_rfl)
theorem KE:Ns Tryz.prog (callMethod (.iface 207 (.agg #[hd 97])) "AssignableTo" #[.iface 207 (.agg #[hd 97])]):=Ac (by kernel_rfl)
end Go.Proofs.YtghkncjelangeaaGreatDoor
