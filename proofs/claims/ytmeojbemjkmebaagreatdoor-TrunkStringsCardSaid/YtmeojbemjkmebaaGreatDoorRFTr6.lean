import Derived.Test.YtmeojbemjkmebaaGreatDoorRFB5
import Derived.Test.YtmeojbemjkmebaaGreatDoorProg
import Derived.Stop.Asserts
set_option linter.unusedSimpArgs false
set_option linter.unusedVariables false
set_option maxRecDepth 20000
set_option maxHeartbeats 4000000
namespace Go.Proofs.YtmeojbemjkmebaaGreatDoor
open K Go Go.Proofs Go.Extern
abbrev hd(T:Nat):Value:=.pointer (some ⟨2,T,none⟩)
abbrev sx:Value:=.iface 221 (.agg #[hd 94])
abbrev N8(T:Nat)(a:Nat)(fl:Int):A:=.agg (.pair (.eq (hd T)) (.pair (.eq (.pointer (some ⟨a,0,none⟩))) (.eq (.int .u64 fl))))
abbrev ta(T:Nat)(a:Nat)(fl:Int):Value:=.agg #[hd T,.pointer (some ⟨a,0,none⟩),.int .u64 fl]
theorem K9:fS Tryz.prog 109 (fun args=>ReflectliteValue.unpack (args.getD 0 (.tuple #[]))):=fS.of Tryz.func109 (by kernel_rfl) (by kernel_rfl) (by kernel_rfl) (by kernel_rfl)
theorem Oy:fS Tryz.prog 110 (ReflectliteValue.methodAny (ReflectliteValue.valueError "reflectlite.Value.Type" 0) fun t _ _ _=>ReflectliteType.toType t):=fS.of Tryz.func110 (by kernel_rfl) (by kernel_rfl) (by kernel_rfl) (by kernel_rfl)
theorem Ox:fS Tryz.prog 111 (ReflectliteValue.method (ReflectliteValue.valueError "reflectlite.Value.IsNil" 0) ReflectliteValue.isNil):=fS.of Tryz.func111 (by kernel_rfl) (by kernel_rfl) (by kernel_rfl) (by kernel_rfl)
theorem Ov:fS Tryz.prog 143 ReflectliteType.typeOf:=fS.of Tryz.func143 (by kernel_rfl) (by kernel_rfl) (by kernel_rfl) (by kernel_rfl)
theorem Ou:fS Tryz.prog 144 (ReflectliteValue.method (ReflectliteValue.valueError "reflectlite.Value.Elem" 0) ReflectliteValue.elem):=fS.of Tryz.func144 (by kernel_rfl) (by kernel_rfl) (by kernel_rfl) (by kernel_rfl)
theorem K8:fS Tryz.prog 145 ReflectliteValue.set:=fS.of Tryz.func145 (by kernel_rfl) (by kernel_rfl) (by kernel_rfl) (by kernel_rfl)
theorem K7:fS Tryz.prog 188 (ReflectliteType.abiMethod fun t=>do pure (.int .u8 (←Rtype.kind t))):=fS.of Tryz.func188 (by kernel_rfl) (by kernel_rfl) (by kernel_rfl) (by kernel_rfl)
theorem Ot:fS Tryz.prog 198 (ReflectliteType.relation "AssignableTo" ReflectliteType.assignableTo):=fS.of Tryz.func198 (by kernel_rfl) (by kernel_rfl) (by kernel_rfl) (by kernel_rfl)
theorem Oq:fS Tryz.prog 200 (ReflectliteType.method ReflectliteType.elem):=fS.of Tryz.func200 (by kernel_rfl) (by kernel_rfl) (by kernel_rfl) (by kernel_rfl)
theorem Oo:fS Tryz.prog 201 (ReflectliteType.relation "Implements" ReflectliteType.implements_):=fS.of Tryz.func201 (by kernel_rfl) (by kernel_rfl) (by kernel_rfl) (by kernel_rfl)
theorem A2(t:Addr)(w:World):(ReflectliteValue.unpack (.iface 143 (.pointer (some t)))).run Tryz.prog w= .ok (ta 143 w.heap.size 150) (w.alloc (.cells #[.pointer (some t)] 143)):=by kernel_rfl
theorem wj(t:Addr):Ns Tryz.prog (ReflectliteValue.unpack (.iface 143 (.pointer (some t)))):=G4 (by kernel_rfl)
theorem I4(a:Addr)(w:World):(ReflectliteValue.methodAny (ReflectliteValue.valueError "reflectlite.Value.Type" 0) (fun t _ _ _=>ReflectliteType.toType t) #[.agg #[hd 143,.pointer (some a),.int .u64 150]]).run Tryz.prog w= .ok (.iface 221 (.agg #[hd 143])) w:=by kernel_rfl
theorem BG(a:Addr):Ns Tryz.prog (ReflectliteValue.methodAny (ReflectliteValue.valueError "reflectlite.Value.Type" 0) (fun t _ _ _=>ReflectliteType.toType t) #[.agg #[hd 143,.pointer (some a),.int .u64 150]]):=oD (by kernel_rfl)
theorem Le:dG Tryz.prog 143 1 false:=⟨fun w=>by kernel_rfl,fun w=>by kernel_rfl⟩
theorem QN(z:Sem Value)(f:TypeId→Addr→Nat→Nat→Sem Value)(v:Value):
 ReflectliteValue.method z f #[v]=(do match←ReflectliteValue.parts v with |none=>z |some (t,a,fl)=>f t a fl (fl % 32)):=rfl
theorem zy(a:Addr)(w:World):(ReflectliteValue.parts (.agg #[hd 143,.pointer (some a),.int .u64 150])).run Tryz.prog w= .ok (some (143,a,150)) w:=by kernel_rfl
theorem Ls(T:Nat)(w:World):(method (Tryz.prog.types.size+Made.depth) 221 (.agg #[hd T]) "Kind").run Tryz.prog w= .ok (188,hd T) w:=by kernel_rfl
theorem OW(T:Nat)(w:World):(method (Tryz.prog.types.size+Made.depth) 221 (.agg #[hd T]) "Elem").run Tryz.prog w= .ok (200,.agg #[hd T]) w:=by kernel_rfl
theorem OU(T:Nat)(w:World):(method (Tryz.prog.types.size+Made.depth) 221 (.agg #[hd T]) "Implements").run Tryz.prog w= .ok (201,.agg #[hd T]) w:=by kernel_rfl
theorem OX(T:Nat)(w:World):(method (Tryz.prog.types.size+Made.depth) 221 (.agg #[hd T]) "AssignableTo").run Tryz.prog w= .ok (198,.agg #[hd T]) w:=by kernel_rfl
theorem JG(w:World):((ReflectliteType.abiMethod fun t=>do pure (.int .u8 (←Rtype.kind t))) #[hd 143]).run Tryz.prog w= .ok (.int .u8 22) w:=by kernel_rfl
theorem JH(w:World):((ReflectliteType.abiMethod fun t=>do pure (.int .u8 (←Rtype.kind t))) #[hd 140]).run Tryz.prog w= .ok (.int .u8 25) w:=by kernel_rfl
theorem Kt(w:World):(ReflectliteType.method ReflectliteType.elem #[.agg #[hd 143]]).run Tryz.prog w= .ok (.iface 221 (.agg #[hd 140])) w:=by kernel_rfl
theorem JK(w:World):(ReflectliteType.relation "Implements" ReflectliteType.implements_ #[.agg #[hd 140],sx]).run Tryz.prog w= .ok (.bool true) w:=by kernel_rfl
theorem Ea(v:Value)(w:World):(ReflectliteType.typeOf #[.iface 140 v]).run Tryz.prog w= .ok (.iface 221 (.agg #[hd 140])) w:=by kernel_rfl
theorem KH(w:World):(ReflectliteType.relation "AssignableTo" ReflectliteType.assignableTo #[.agg #[hd 140],.iface 221 (.agg #[hd 140])]).run Tryz.prog w= .ok (.bool true) w:=by kernel_rfl
theorem A3(n:Int)(w:World):(ReflectliteValue.unpack (.iface 140 (.agg #[.int .i64 n]))).run Tryz.prog w= .ok (ta 140 w.heap.size 153) (w.alloc (.cells #[.int .i64 n] 140)):=by kernel_rfl
theorem EG(v:Value):Ns Tryz.prog (ReflectliteType.typeOf #[.iface 140 v]):=oD (by kernel_rfl)
theorem wl(n:Int):Ns Tryz.prog (ReflectliteValue.unpack (.iface 140 (.agg #[.int .i64 n]))):=G4 (by kernel_rfl)
theorem Da(T:Nat)(h:T=143∨T=140):Ns Tryz.prog (callMethod (.iface 221 (.agg #[hd T])) "Kind" #[]):=by
 rcases h with rfl |rfl
 ·exact zK (by kernel_rfl)
 ·exact zK (by kernel_rfl)
theorem Jv:Ns Tryz.prog (callMethod (.iface 221 (.agg #[hd 143])) "Elem" #[]):=zK (by kernel_rfl)
theorem Ju:Ns Tryz.prog (callMethod (.iface 221 (.agg #[hd 140])) "Implements" #[sx]):=zK (by kernel_rfl)
theorem Jx:Ns Tryz.prog (callMethod (.iface 221 (.agg #[hd 140])) "AssignableTo" #[.iface 221 (.agg #[hd 140])]):=zK (by kernel_rfl)
end Go.Proofs.YtmeojbemjkmebaaGreatDoor
