import Derived.Test.YtopgphikdglphaaB5
import Derived.Test.YtopgphikdglphaaMa10
import Derived.Test.YtopgphikdglphaaProg
namespace Go.Proofs.Ytopgphikdglphaa
open K Go Go.Proofs
/-! Facts about the program's types, by their numbers. -/
theorem mixed : Try.prog.follows .mixedOrders = true := by kernel_rfl
theorem nfn {n : Nat} : true = false → n = 1 := fun h => nomatch h
def len8tab : ByteArray := ⟨#[0, 1, 2, 2, 3, 3, 3, 3, 4, 4, 4, 4, 4, 4, 4, 4, 5, 5, 5, 5, 5, 5, 5, 5, 5, 5, 5, 5, 5, 5, 5, 5, 6, 6, 6, 6, 6, 6, 6, 6, 6, 6, 6, 6, 6, 6, 6, 6, 6, 6, 6, 6, 6, 6, 6, 6, 6, 6, 6, 6, 6, 6, 6, 6, 7, 7, 7, 7, 7, 7, 7, 7, 7, 7, 7, 7, 7, 7, 7, 7, 7, 7, 7, 7, 7, 7, 7, 7, 7, 7, 7, 7, 7, 7, 7, 7, 7, 7, 7, 7, 7, 7, 7, 7, 7, 7, 7, 7, 7, 7, 7, 7, 7, 7, 7, 7, 7, 7, 7, 7, 7, 7, 7, 7, 7, 7, 7, 7, 8, 8, 8, 8, 8, 8, 8, 8, 8, 8, 8, 8, 8, 8, 8, 8, 8, 8, 8, 8, 8, 8, 8, 8, 8, 8, 8, 8, 8, 8, 8, 8, 8, 8, 8, 8, 8, 8, 8, 8, 8, 8, 8, 8, 8, 8, 8, 8, 8, 8, 8, 8, 8, 8, 8, 8, 8, 8, 8, 8, 8, 8, 8, 8, 8, 8, 8, 8, 8, 8, 8, 8, 8, 8, 8, 8, 8, 8, 8, 8, 8, 8, 8, 8, 8, 8, 8, 8, 8, 8, 8, 8, 8, 8, 8, 8, 8, 8, 8, 8, 8, 8, 8, 8, 8, 8, 8, 8, 8, 8, 8, 8, 8, 8, 8, 8, 8, 8, 8, 8, 8, 8, 8, 8, 8, 8, 8, 8]⟩
@[reducible] def tThing : Ty := .agg (.pair (.slice (.int .i64)) (.pair (.int .i64) (.pair (.int .i64) (.pair (.int .i64) (.int .i64)))))
abbrev dThing := ((List Int) × (Int × (Int × (Int × Int))))
@[reducible] def tDresser : Ty := .agg (.pair (.slice (.int .i64)) (.pair (.int .i64) (.int .i64)))
abbrev dDresser := ((List Int) × (Int × Int))
@[reducible] def tChange : Ty := .agg (.pair (.slice tThing) (.pair (.slice tDresser) (.pair (.slice (.int .i64)) (.slice (.int .i64)))))
abbrev dChange := ((List dThing) × ((List dDresser) × ((List Int) × (List Int))))
@[reducible] def tTask : Ty := .agg (.pair (.int .i64) .bool)
abbrev dTask := (Int × Bool)
@[reducible] def tStep : Ty := .agg (.pair (.int .i64) (.int .i64))
abbrev dStep := (Int × Int)
@[reducible] def tLots : Ty := .agg (.pair (.slice (.int .i64)) (.pair (.int .i64) (.int .u64)))
@[reducible] def tquick : Ty := .agg (.pair tChange (.pair (.slice (.tag 109 111)) (.pair (.arr 8 (.int .u8)) .ign)))
abbrev dquick := (dChange × ((List (Bool × Int)) × ((List Int) × Unit)))
theorem sz3 : SzOk Try.prog 3 1 false := ⟨fun w => by kernel_rfl, fun w => by kernel_rfl⟩
theorem sz22 : SzOk Try.prog 22 1 false := ⟨fun w => by kernel_rfl, fun w => by kernel_rfl⟩
theorem fo26_0 : FieldOk Try.prog 26 0 0 := FieldOk.of (by kernel_rfl)
theorem sz23 : SzOk Try.prog 23 1 false := ⟨fun w => by kernel_rfl, fun w => by kernel_rfl⟩
theorem fo26_2 : FieldOk Try.prog 26 2 2 := FieldOk.of (by kernel_rfl)
theorem fo26_3 : FieldOk Try.prog 26 3 3 := FieldOk.of (by kernel_rfl)
theorem sz4 : SzOk Try.prog 4 1 false := ⟨fun w => by kernel_rfl, fun w => by kernel_rfl⟩
theorem sz43 : SzOk Try.prog 43 5 true := ⟨fun w => by kernel_rfl, fun w => by kernel_rfl⟩
theorem fo43_0 : FieldOk Try.prog 43 0 0 := FieldOk.of (by kernel_rfl)
theorem pl56 : BdOk Try.prog 56 #[(0, 1), (1, 1)] := ⟨_, Try.underlying56, fun _ => by kernel_rfl⟩
theorem za56 : ∀ w, (zeroValue 56).run Try.prog w = .ok (.agg #[(.int .i64 (0)), (.bool false)]) w := fun w => by kernel_rfl
theorem alb56 : ∀ S w, (A.cells S w (.pair (.eq (.int .i64 (0 : Int))) (.eq (.bool false))) (Value.cells (.agg #[(.int .i64 (0)), (.bool false)])).toList) := fun _ _ => ⟨[_], _, rfl, ⟨rfl, rfl⟩, ⟨rfl, rfl⟩⟩
theorem sl45 : SlOk Try.prog 45 56 2 16 := .of (z := (.agg #[(.int .i64 (0)), (.bool false)])) Try.underlying45 (by kernel_rfl) rfl rfl rfl
theorem za26 : ∀ w, (zeroValue 26).run Try.prog w = .ok (.agg #[(.slice none 0 0), (.slice none 0 0), (.slice none 0 0), (.slice none 0 0)]) w := fun w => by kernel_rfl
theorem al26 : ∀ S w, (A.cells S w (.agg (.pair (.eq (.slice none 0 0)) (.pair (.eq (.slice none 0 0)) (.pair (.eq (.slice none 0 0)) (.eq (.slice none 0 0)))))) (Value.cells (.agg #[(.slice none 0 0), (.slice none 0 0), (.slice none 0 0), (.slice none 0 0)])).toList) := fun _ _ => ⟨[_], _, rfl, ⟨rfl, rfl⟩, ⟨[_], _, rfl, ⟨rfl, rfl⟩, ⟨[_], _, rfl, ⟨rfl, rfl⟩, ⟨rfl, rfl⟩⟩⟩⟩
theorem sl22 : SlOk Try.prog 22 3 1 8 := .of (z := (.int .i64 (0))) Try.underlying22 (by kernel_rfl) rfl rfl rfl
theorem pl43 : BdOk Try.prog 43 #[(0, 1), (1, 1), (2, 1), (3, 1), (4, 1)] := ⟨_, Try.underlying43, fun _ => by kernel_rfl⟩
theorem za43 : ∀ w, (zeroValue 43).run Try.prog w = .ok (.agg #[(.slice none 0 0), (.int .i64 (0)), (.int .i64 (0)), (.int .i64 (0)), (.int .i64 (0))]) w := fun w => by kernel_rfl
theorem alb43 : ∀ S w, (A.cells S w (.pair (.eq (.slice none 0 0)) (.pair (.eq (.int .i64 (0 : Int))) (.pair (.eq (.int .i64 (0 : Int))) (.pair (.eq (.int .i64 (0 : Int))) (.eq (.int .i64 (0 : Int))))))) (Value.cells (.agg #[(.slice none 0 0), (.int .i64 (0)), (.int .i64 (0)), (.int .i64 (0)), (.int .i64 (0))])).toList) := fun _ _ => ⟨[_], _, rfl, ⟨rfl, rfl⟩, ⟨[_], _, rfl, ⟨rfl, rfl⟩, ⟨[_], _, rfl, ⟨rfl, rfl⟩, ⟨[_], _, rfl, ⟨rfl, rfl⟩, ⟨rfl, rfl⟩⟩⟩⟩⟩
theorem al43 : ∀ S w, (A.cells S w (.agg (.pair (.eq (.slice none 0 0)) (.pair (.eq (.int .i64 (0 : Int))) (.pair (.eq (.int .i64 (0 : Int))) (.pair (.eq (.int .i64 (0 : Int))) (.eq (.int .i64 (0 : Int)))))))) (Value.cells (.agg #[(.slice none 0 0), (.int .i64 (0)), (.int .i64 (0)), (.int .i64 (0)), (.int .i64 (0))])).toList) := fun _ _ => ⟨[_], _, rfl, ⟨rfl, rfl⟩, ⟨[_], _, rfl, ⟨rfl, rfl⟩, ⟨[_], _, rfl, ⟨rfl, rfl⟩, ⟨[_], _, rfl, ⟨rfl, rfl⟩, ⟨rfl, rfl⟩⟩⟩⟩⟩
theorem sl23 : SlOk Try.prog 23 43 5 56 := .of (z := (.agg #[(.slice none 0 0), (.int .i64 (0)), (.int .i64 (0)), (.int .i64 (0)), (.int .i64 (0))])) Try.underlying23 (by kernel_rfl) rfl rfl rfl
theorem pl38 : BdOk Try.prog 38 #[(0, 1), (1, 1), (2, 1)] := ⟨_, Try.underlying38, fun _ => by kernel_rfl⟩
theorem za38 : ∀ w, (zeroValue 38).run Try.prog w = .ok (.agg #[(.slice none 0 0), (.int .i64 (0)), (.int .i64 (0))]) w := fun w => by kernel_rfl
theorem alb38 : ∀ S w, (A.cells S w (.pair (.eq (.slice none 0 0)) (.pair (.eq (.int .i64 (0 : Int))) (.eq (.int .i64 (0 : Int))))) (Value.cells (.agg #[(.slice none 0 0), (.int .i64 (0)), (.int .i64 (0))])).toList) := fun _ _ => ⟨[_], _, rfl, ⟨rfl, rfl⟩, ⟨[_], _, rfl, ⟨rfl, rfl⟩, ⟨rfl, rfl⟩⟩⟩
theorem al38 : ∀ S w, (A.cells S w (.agg (.pair (.eq (.slice none 0 0)) (.pair (.eq (.int .i64 (0 : Int))) (.eq (.int .i64 (0 : Int)))))) (Value.cells (.agg #[(.slice none 0 0), (.int .i64 (0)), (.int .i64 (0))])).toList) := fun _ _ => ⟨[_], _, rfl, ⟨rfl, rfl⟩, ⟨[_], _, rfl, ⟨rfl, rfl⟩, ⟨rfl, rfl⟩⟩⟩
theorem sz38 : SzOk Try.prog 38 3 true := ⟨fun w => by kernel_rfl, fun w => by kernel_rfl⟩
theorem fo38_0 : FieldOk Try.prog 38 0 0 := FieldOk.of (by kernel_rfl)
theorem fo26_1 : FieldOk Try.prog 26 1 1 := FieldOk.of (by kernel_rfl)
theorem sz24 : SzOk Try.prog 24 1 false := ⟨fun w => by kernel_rfl, fun w => by kernel_rfl⟩
theorem sl24 : SlOk Try.prog 24 38 3 40 := .of (z := (.agg #[(.slice none 0 0), (.int .i64 (0)), (.int .i64 (0))])) Try.underlying24 (by kernel_rfl) rfl rfl rfl
theorem sz26 : SzOk Try.prog 26 4 true := ⟨fun w => by kernel_rfl, fun w => by kernel_rfl⟩
theorem en46 : EnterOk Try.prog 46 := EnterOk.of Try.func46 (by kernel_rfl) (by kernel_rfl)
theorem en44 : EnterOk Try.prog 44 := EnterOk.of Try.func44 (by kernel_rfl) (by kernel_rfl)
theorem en45 : EnterOk Try.prog 45 := EnterOk.of Try.func45 (by kernel_rfl) (by kernel_rfl)
theorem fo43_1 : FieldOk Try.prog 43 1 1 := FieldOk.of (by kernel_rfl)
theorem fo43_2 : FieldOk Try.prog 43 2 2 := FieldOk.of (by kernel_rfl)
theorem fo43_3 : FieldOk Try.prog 43 3 3 := FieldOk.of (by kernel_rfl)
theorem fo43_4 : FieldOk Try.prog 43 4 4 := FieldOk.of (by kernel_rfl)
theorem za141 : ∀ w, (zeroValue 141).run Try.prog w = .ok (.agg #[(.int .u8 (0)), (.int .u8 (0)), (.int .u8 (0)), (.int .u8 (0))]) w := fun w => by kernel_rfl
theorem al141 : ∀ S w, (A.cells S w (.rep (.arr 4 (.int .u8)) [(0 : Int), (0 : Int), (0 : Int), (0 : Int)]) (Value.cells (.agg #[(.int .u8 (0)), (.int .u8 (0)), (.int .u8 (0)), (.int .u8 (0))])).toList) := fun _ _ => ⟨rfl, ⟨[_], _, rfl, rfl, ⟨[_], _, rfl, rfl, ⟨[_], _, rfl, rfl, ⟨[_], _, rfl, rfl, rfl⟩⟩⟩⟩⟩
theorem sz94 : SzOk Try.prog 94 1 false := ⟨fun w => by kernel_rfl, fun w => by kernel_rfl⟩
theorem en40 : EnterOk Try.prog 40 := EnterOk.of Try.func40 (by kernel_rfl) (by kernel_rfl)
theorem en49 : EnterOk Try.prog 49 := EnterOk.of Try.func49 (by kernel_rfl) (by kernel_rfl)
theorem en43 : EnterOk Try.prog 43 := EnterOk.of Try.func43 (by kernel_rfl) (by kernel_rfl)
theorem fo38_1 : FieldOk Try.prog 38 1 1 := FieldOk.of (by kernel_rfl)
theorem fo38_2 : FieldOk Try.prog 38 2 2 := FieldOk.of (by kernel_rfl)
theorem sz83 : SzOk Try.prog 83 1 false := ⟨fun w => by kernel_rfl, fun w => by kernel_rfl⟩
theorem fo98_2 : FieldOk Try.prog 98 2 5 := FieldOk.of (by kernel_rfl)
theorem fo98_1 : FieldOk Try.prog 98 1 4 := FieldOk.of (by kernel_rfl)
theorem sz93 : SzOk Try.prog 93 1 false := ⟨fun w => by kernel_rfl, fun w => by kernel_rfl⟩
theorem sz108 : SzOk Try.prog 108 1 false := ⟨fun w => by kernel_rfl, fun w => by kernel_rfl⟩
theorem ta109 : TaOk Try.prog 109 := ⟨Try.underlying109, fun w => by kernel_rfl⟩
theorem mt109_thing : MthOk Try.prog 109 "galloon/change.thing" 47 := fun n w => by kernel_rfl
theorem mt111_thing : MthOk Try.prog 111 "galloon/change.thing" 48 := fun n w => by kernel_rfl
theorem ta111 : TaOk Try.prog 111 := ⟨Try.underlying111, fun w => by kernel_rfl⟩
theorem fo98_0 : FieldOk Try.prog 98 0 0 := FieldOk.of (by kernel_rfl)
theorem en79 : EnterOk Try.prog 79 := EnterOk.of Try.func79 (by kernel_rfl) (by kernel_rfl)
theorem en78 : EnterOk Try.prog 78 := EnterOk.of Try.func78 (by kernel_rfl) (by kernel_rfl)
theorem en12 : EnterOk Try.prog 12 := EnterOk.of Try.func12 (by kernel_rfl) (by kernel_rfl)
theorem pl98 : BdOk Try.prog 98 #[(0, 4), (4, 1), (5, 8), (13, 1)] := ⟨_, Try.underlying98, fun _ => by kernel_rfl⟩
theorem za98 : ∀ w, (zeroValue 98).run Try.prog w = .ok (.agg #[(.slice none 0 0), (.slice none 0 0), (.slice none 0 0), (.slice none 0 0), (.slice none 0 0), (.int .u8 (0)), (.int .u8 (0)), (.int .u8 (0)), (.int .u8 (0)), (.int .u8 (0)), (.int .u8 (0)), (.int .u8 (0)), (.int .u8 (0)), (.map none)]) w := fun w => by kernel_rfl
theorem alb98 : ∀ S w, (A.cells S w (.pair (.agg (.pair (.eq (.slice none 0 0)) (.pair (.eq (.slice none 0 0)) (.pair (.eq (.slice none 0 0)) (.eq (.slice none 0 0)))))) (.pair (.eq (.slice none 0 0)) (.pair (.rep (.arr 8 (.int .u8)) [(0 : Int), (0 : Int), (0 : Int), (0 : Int), (0 : Int), (0 : Int), (0 : Int), (0 : Int)]) (.eq (.map none))))) (Value.cells (.agg #[(.slice none 0 0), (.slice none 0 0), (.slice none 0 0), (.slice none 0 0), (.slice none 0 0), (.int .u8 (0)), (.int .u8 (0)), (.int .u8 (0)), (.int .u8 (0)), (.int .u8 (0)), (.int .u8 (0)), (.int .u8 (0)), (.int .u8 (0)), (.map none)])).toList) := fun _ _ => ⟨[_, _, _, _], _, rfl, ⟨[_], _, rfl, ⟨rfl, rfl⟩, ⟨[_], _, rfl, ⟨rfl, rfl⟩, ⟨[_], _, rfl, ⟨rfl, rfl⟩, ⟨rfl, rfl⟩⟩⟩⟩, ⟨[_], _, rfl, ⟨rfl, rfl⟩, ⟨[_, _, _, _, _, _, _, _], _, rfl, ⟨rfl, ⟨[_], _, rfl, rfl, ⟨[_], _, rfl, rfl, ⟨[_], _, rfl, rfl, ⟨[_], _, rfl, rfl, ⟨[_], _, rfl, rfl, ⟨[_], _, rfl, rfl, ⟨[_], _, rfl, rfl, ⟨[_], _, rfl, rfl, rfl⟩⟩⟩⟩⟩⟩⟩⟩⟩, ⟨rfl, rfl⟩⟩⟩⟩
theorem en62 : EnterOk Try.prog 62 := EnterOk.of Try.func62 (by kernel_rfl) (by kernel_rfl)
theorem en41 : EnterOk Try.prog 41 := EnterOk.of Try.func41 (by kernel_rfl) (by kernel_rfl)
theorem sl93 : SlOk Try.prog 93 108 1 16 := .of (z := .nilIface) Try.underlying93 (by kernel_rfl) rfl rfl rfl
theorem en63 : EnterOk Try.prog 63 := EnterOk.of Try.func63 (by kernel_rfl) (by kernel_rfl)
theorem sl33 : SlOk Try.prog 33 59 2 16 := .of (z := (.agg #[(.int .i64 (0)), (.int .i64 (0))])) Try.underlying33 (by kernel_rfl) rfl rfl rfl
theorem en75 : EnterOk Try.prog 75 := EnterOk.of Try.func75 (by kernel_rfl) (by kernel_rfl)
theorem en57 : EnterOk Try.prog 57 := EnterOk.of Try.func57 (by kernel_rfl) (by kernel_rfl)
theorem sz33 : SzOk Try.prog 33 1 false := ⟨fun w => by kernel_rfl, fun w => by kernel_rfl⟩
theorem sz133 : SzOk Try.prog 133 1 false := ⟨fun w => by kernel_rfl, fun w => by kernel_rfl⟩
theorem en66 : EnterOk Try.prog 66 := EnterOk.of Try.func66 (by kernel_rfl) (by kernel_rfl)
theorem en67 : EnterOk Try.prog 67 := EnterOk.of Try.func67 (by kernel_rfl) (by kernel_rfl)
theorem pl59 : BdOk Try.prog 59 #[(0, 1), (1, 1)] := ⟨_, Try.underlying59, fun _ => by kernel_rfl⟩
theorem za59 : ∀ w, (zeroValue 59).run Try.prog w = .ok (.agg #[(.int .i64 (0)), (.int .i64 (0))]) w := fun w => by kernel_rfl
theorem alb59 : ∀ S w, (A.cells S w (.pair (.eq (.int .i64 (0 : Int))) (.eq (.int .i64 (0 : Int)))) (Value.cells (.agg #[(.int .i64 (0)), (.int .i64 (0))])).toList) := fun _ _ => ⟨[_], _, rfl, ⟨rfl, rfl⟩, ⟨rfl, rfl⟩⟩
theorem sz134 : SzOk Try.prog 134 1 false := ⟨fun w => by kernel_rfl, fun w => by kernel_rfl⟩
theorem en65 : EnterOk Try.prog 65 := EnterOk.of Try.func65 (by kernel_rfl) (by kernel_rfl)
theorem sz59 : SzOk Try.prog 59 2 true := ⟨fun w => by kernel_rfl, fun w => by kernel_rfl⟩
theorem za33 : ∀ w, (zeroValue 33).run Try.prog w = .ok (.slice none 0 0) w := fun w => by kernel_rfl
theorem al33 : ∀ S w, (A.cells S w (.eq (.slice none 0 0)) (Value.cells (.slice none 0 0)).toList) := fun _ _ => ⟨rfl, rfl⟩
theorem za134 : ∀ w, (zeroValue 134).run Try.prog w = .ok .nilFunc w := fun w => by kernel_rfl
theorem al134 : ∀ S w, (A.cells S w (.eq .nilFunc) (Value.cells .nilFunc).toList) := fun _ _ => ⟨rfl, rfl⟩
theorem za113 : ∀ w, (zeroValue 113).run Try.prog w = .ok (.agg #[(.int .i64 (0)), (.int .i64 (0)), (.int .i64 (0)), (.int .i64 (0))]) w := fun w => by kernel_rfl
theorem al113 : ∀ S w, (A.cells S w (.rep (.arr 4 (.int .i64)) [(0 : Int), (0 : Int), (0 : Int), (0 : Int)]) (Value.cells (.agg #[(.int .i64 (0)), (.int .i64 (0)), (.int .i64 (0)), (.int .i64 (0))])).toList) := fun _ _ => ⟨rfl, ⟨[_], _, rfl, rfl, ⟨[_], _, rfl, rfl, ⟨[_], _, rfl, rfl, ⟨[_], _, rfl, rfl, rfl⟩⟩⟩⟩⟩
theorem za143 : ∀ w, (zeroValue 143).run Try.prog w = .ok (.agg #[(.int .i64 (0)), (.int .i64 (0)), (.int .i64 (0))]) w := fun w => by kernel_rfl
theorem al143 : ∀ S w, (A.cells S w (.rep (.arr 3 (.int .i64)) [(0 : Int), (0 : Int), (0 : Int)]) (Value.cells (.agg #[(.int .i64 (0)), (.int .i64 (0)), (.int .i64 (0))])).toList) := fun _ _ => ⟨rfl, ⟨[_], _, rfl, rfl, ⟨[_], _, rfl, rfl, ⟨[_], _, rfl, rfl, rfl⟩⟩⟩⟩
theorem al59 : ∀ S w, (A.cells S w (.agg (.pair (.eq (.int .i64 (0 : Int))) (.eq (.int .i64 (0 : Int))))) (Value.cells (.agg #[(.int .i64 (0)), (.int .i64 (0))])).toList) := fun _ _ => ⟨[_], _, rfl, ⟨rfl, rfl⟩, ⟨rfl, rfl⟩⟩
theorem fo59_1 : FieldOk Try.prog 59 1 1 := FieldOk.of (by kernel_rfl)
theorem fo59_0 : FieldOk Try.prog 59 0 0 := FieldOk.of (by kernel_rfl)
theorem en72 : EnterOk Try.prog 72 := EnterOk.of Try.func72 (by kernel_rfl) (by kernel_rfl)
theorem sz113 : SzOk Try.prog 113 4 true := ⟨fun w => by kernel_rfl, fun w => by kernel_rfl⟩
theorem za138 : ∀ w, (zeroValue 138).run Try.prog w = .ok (.agg #[(.int .i64 (0)), (.int .i64 (0)), (.int .i64 (0)), (.int .i64 (0)), (.int .i64 (0)), (.int .i64 (0)), (.int .i64 (0)), (.int .i64 (0))]) w := fun w => by kernel_rfl
theorem al138 : ∀ S w, (A.cells S w (.rep (.arr 4 tStep) [((0 : Int), (0 : Int)), ((0 : Int), (0 : Int)), ((0 : Int), (0 : Int)), ((0 : Int), (0 : Int))]) (Value.cells (.agg #[(.int .i64 (0)), (.int .i64 (0)), (.int .i64 (0)), (.int .i64 (0)), (.int .i64 (0)), (.int .i64 (0)), (.int .i64 (0)), (.int .i64 (0))])).toList) := fun _ _ => ⟨rfl, ⟨[_, _], _, rfl, ⟨[_], _, rfl, rfl, rfl⟩, ⟨[_, _], _, rfl, ⟨[_], _, rfl, rfl, rfl⟩, ⟨[_, _], _, rfl, ⟨[_], _, rfl, rfl, rfl⟩, ⟨[_, _], _, rfl, ⟨[_], _, rfl, rfl, rfl⟩, rfl⟩⟩⟩⟩⟩
theorem sz138 : SzOk Try.prog 138 8 true := ⟨fun w => by kernel_rfl, fun w => by kernel_rfl⟩
theorem en68 : EnterOk Try.prog 68 := EnterOk.of Try.func68 (by kernel_rfl) (by kernel_rfl)
theorem zvLine : ∀ w, (zeroValue 3).run Try.prog w = .ok (.int .i64 0) w := fun w => by kernel_rfl
theorem fo98_3 : FieldOk Try.prog 98 3 13 := FieldOk.of (by kernel_rfl)
theorem sz96 : SzOk Try.prog 96 1 false := ⟨fun w => by kernel_rfl, fun w => by kernel_rfl⟩
theorem en51 : EnterOk Try.prog 51 := EnterOk.of Try.func51 (by kernel_rfl) (by kernel_rfl)
theorem en69 : EnterOk Try.prog 69 := EnterOk.of Try.func69 (by kernel_rfl) (by kernel_rfl)
theorem za3 : ∀ w, (zeroValue 3).run Try.prog w = .ok (.int .i64 (0)) w := fun w => by kernel_rfl
theorem al3 : ∀ S w, (A.cells S w (.eq (.int .i64 (0 : Int))) (Value.cells (.int .i64 (0))).toList) := fun _ _ => ⟨rfl, rfl⟩
theorem za4 : ∀ w, (zeroValue 4).run Try.prog w = .ok (.bool false) w := fun w => by kernel_rfl
theorem al4 : ∀ S w, (A.cells S w (.eq (.bool false)) (Value.cells (.bool false)).toList) := fun _ _ => ⟨rfl, rfl⟩
theorem sz91 : SzOk Try.prog 91 1 false := ⟨fun w => by kernel_rfl, fun w => by kernel_rfl⟩
theorem en37 : EnterOk Try.prog 37 := EnterOk.of Try.func37 (by kernel_rfl) (by kernel_rfl)
theorem en64 : EnterOk Try.prog 64 := EnterOk.of Try.func64 (by kernel_rfl) (by kernel_rfl)
theorem sz95 : SzOk Try.prog 95 8 true := ⟨fun w => by kernel_rfl, fun w => by kernel_rfl⟩
theorem en55 : EnterOk Try.prog 55 := EnterOk.of Try.func55 (by kernel_rfl) (by kernel_rfl)
theorem en36 : EnterOk Try.prog 36 := EnterOk.of Try.func36 (by kernel_rfl) (by kernel_rfl)
theorem en35 : EnterOk Try.prog 35 := EnterOk.of Try.func35 (by kernel_rfl) (by kernel_rfl)
theorem en34 : EnterOk Try.prog 34 := EnterOk.of Try.func34 (by kernel_rfl) (by kernel_rfl)
theorem za83 : ∀ w, (zeroValue 83).run Try.prog w = .ok (.pointer none) w := fun w => by kernel_rfl
theorem al83 : ∀ S w, (A.cells S w (.eq (.pointer none)) (Value.cells (.pointer none)).toList) := fun _ _ => ⟨rfl, rfl⟩
theorem mc92 : McOk Try.prog 92 := fun w => by kernel_rfl
theorem za92 : ∀ w, (zeroValue 92).run Try.prog w = .ok (.chan none) w := fun w => by kernel_rfl
theorem al92 : ∀ S w, (A.cells S w (.eq (.chan none)) (Value.cells (.chan none)).toList) := fun _ _ => ⟨rfl, rfl⟩
theorem sz92 : SzOk Try.prog 92 1 false := ⟨fun w => by kernel_rfl, fun w => by kernel_rfl⟩
theorem pl26 : BdOk Try.prog 26 #[(0, 1), (1, 1), (2, 1), (3, 1)] := ⟨_, Try.underlying26, fun _ => by kernel_rfl⟩
theorem alb26 : ∀ S w, (A.cells S w (.pair (.eq (.slice none 0 0)) (.pair (.eq (.slice none 0 0)) (.pair (.eq (.slice none 0 0)) (.eq (.slice none 0 0))))) (Value.cells (.agg #[(.slice none 0 0), (.slice none 0 0), (.slice none 0 0), (.slice none 0 0)])).toList) := fun _ _ => ⟨[_], _, rfl, ⟨rfl, rfl⟩, ⟨[_], _, rfl, ⟨rfl, rfl⟩, ⟨[_], _, rfl, ⟨rfl, rfl⟩, ⟨rfl, rfl⟩⟩⟩⟩
theorem en80 : EnterOk Try.prog 80 := EnterOk.of Try.func80 (by kernel_rfl) (by kernel_rfl)
theorem sz30 : SzOk Try.prog 30 1 false := ⟨fun w => by kernel_rfl, fun w => by kernel_rfl⟩
theorem ta152 : TaOk Try.prog 152 := ⟨Try.underlying152, fun w => by kernel_rfl⟩
theorem za30 : ∀ w, (zeroValue 30).run Try.prog w = .ok (.int .i64 (0)) w := fun w => by kernel_rfl
theorem al30 : ∀ S w, (A.cells S w (.eq (.int .i64 (0 : Int))) (Value.cells (.int .i64 (0))).toList) := fun _ _ => ⟨rfl, rfl⟩
theorem en71 : EnterOk Try.prog 71 := EnterOk.of Try.func71 (by kernel_rfl) (by kernel_rfl)
theorem en50 : EnterOk Try.prog 50 := EnterOk.of Try.func50 (by kernel_rfl) (by kernel_rfl)
theorem en52 : EnterOk Try.prog 52 := EnterOk.of Try.func52 (by kernel_rfl) (by kernel_rfl)
theorem eq59 : EqOk Try.prog 59 tStep := by
  refine ⟨rfl, by kernel_rfl, fun w x y => ?_⟩
  have u3 := Try.underlying3
  have a3 := Try.isAgg3
  have z3 := Try.sizeOf3
  have hS : Try.prog.underlying 59 = some (.struct (Try.prog.fieldsOf 59)) := by kernel_rfl
  have hp : Try.prog.stoodInHeld 59 = false := by kernel_rfl
  rw [show (10000 : Nat) = 9999 + 1 from rfl, run_equalIn_agg w 9999 59 _ _ hS hp]
  simp only [Program.fieldsOf, Try.underlying59, encT]
  refine ⟨decide (x = y), ?_, decide_eq_true_iff⟩
  go_simp
  obtain ⟨p0, p1⟩ := x
  obtain ⟨q0, q1⟩ := y
  by_cases h0 : p0 = q0 <;> by_cases h1 : p1 = q1 <;> simp [h0, h1]
theorem en56 : EnterOk Try.prog 56 := EnterOk.of Try.func56 (by kernel_rfl) (by kernel_rfl)
theorem en97 : EnterOk Try.prog 97 := EnterOk.of Try.func97 (by kernel_rfl) (by kernel_rfl)
theorem en87 : EnterOk Try.prog 87 := EnterOk.of Try.func87 (by kernel_rfl) (by kernel_rfl)
theorem en91 : EnterOk Try.prog 91 := EnterOk.of Try.func91 (by kernel_rfl) (by kernel_rfl)
theorem en81 : EnterOk Try.prog 81 := EnterOk.of Try.func81 (by kernel_rfl) (by kernel_rfl)
theorem en77 : EnterOk Try.prog 77 := EnterOk.of Try.func77 (by kernel_rfl) (by kernel_rfl)
theorem en76 : EnterOk Try.prog 76 := EnterOk.of Try.func76 (by kernel_rfl) (by kernel_rfl)
theorem en58 : EnterOk Try.prog 58 := EnterOk.of Try.func58 (by kernel_rfl) (by kernel_rfl)
theorem en59 : EnterOk Try.prog 59 := EnterOk.of Try.func59 (by kernel_rfl) (by kernel_rfl)
theorem sl128 : SlOk Try.prog 128 83 1 8 := .of (z := (.pointer none)) Try.underlying128 (by kernel_rfl) rfl rfl rfl
theorem en11 : EnterOk Try.prog 11 := EnterOk.of Try.func11 (by kernel_rfl) (by kernel_rfl)
theorem en8 : EnterOk Try.prog 8 := EnterOk.of Try.func8 (by kernel_rfl) (by kernel_rfl)
theorem en16 : EnterOk Try.prog 16 := EnterOk.of Try.func16 (by kernel_rfl) (by kernel_rfl)
theorem en19 : EnterOk Try.prog 19 := EnterOk.of Try.func19 (by kernel_rfl) (by kernel_rfl)
theorem en20 : EnterOk Try.prog 20 := EnterOk.of Try.func20 (by kernel_rfl) (by kernel_rfl)
theorem en24 : EnterOk Try.prog 24 := EnterOk.of Try.func24 (by kernel_rfl) (by kernel_rfl)
theorem en27 : EnterOk Try.prog 27 := EnterOk.of Try.func27 (by kernel_rfl) (by kernel_rfl)
theorem sl74 : SlOk Try.prog 74 26 4 96 := .of (z := (.agg #[(.slice none 0 0), (.slice none 0 0), (.slice none 0 0), (.slice none 0 0)])) Try.underlying74 (by kernel_rfl) rfl rfl rfl
theorem en28 : EnterOk Try.prog 28 := EnterOk.of Try.func28 (by kernel_rfl) (by kernel_rfl)
theorem en25 : EnterOk Try.prog 25 := EnterOk.of Try.func25 (by kernel_rfl) (by kernel_rfl)
theorem en22 : EnterOk Try.prog 22 := EnterOk.of Try.func22 (by kernel_rfl) (by kernel_rfl)
theorem en26 : EnterOk Try.prog 26 := EnterOk.of Try.func26 (by kernel_rfl) (by kernel_rfl)
theorem en7 : EnterOk Try.prog 7 := EnterOk.of Try.func7 (by kernel_rfl) (by kernel_rfl)
theorem en10 : EnterOk Try.prog 10 := EnterOk.of Try.func10 (by kernel_rfl) (by kernel_rfl)
theorem en47 : EnterOk Try.prog 47 := EnterOk.of Try.func47 (by kernel_rfl) (by kernel_rfl)
theorem en48 : EnterOk Try.prog 48 := EnterOk.of Try.func48 (by kernel_rfl) (by kernel_rfl)
theorem sl48 : SlOk Try.prog 48 22 1 24 := .of (z := (.slice none 0 0)) Try.underlying48 (by kernel_rfl) rfl rfl rfl
theorem sz56 : SzOk Try.prog 56 2 true := ⟨fun w => by kernel_rfl, fun w => by kernel_rfl⟩
theorem eq56 : EqOk Try.prog 56 tTask := by
  refine ⟨rfl, by kernel_rfl, fun w x y => ?_⟩
  have u3 := Try.underlying3
  have a3 := Try.isAgg3
  have z3 := Try.sizeOf3
  have u4 := Try.underlying4
  have a4 := Try.isAgg4
  have z4 := Try.sizeOf4
  have hS : Try.prog.underlying 56 = some (.struct (Try.prog.fieldsOf 56)) := by kernel_rfl
  have hp : Try.prog.stoodInHeld 56 = false := by kernel_rfl
  rw [show (10000 : Nat) = 9999 + 1 from rfl, run_equalIn_agg w 9999 56 _ _ hS hp]
  simp only [Program.fieldsOf, Try.underlying56, encT]
  refine ⟨decide (x = y), ?_, decide_eq_true_iff⟩
  go_simp
  obtain ⟨p0, p1⟩ := x
  obtain ⟨q0, q1⟩ := y
  by_cases h0 : p0 = q0 <;> by_cases h1 : p1 = q1 <;> simp [h0, h1]
theorem en53 : EnterOk Try.prog 53 := EnterOk.of Try.func53 (by kernel_rfl) (by kernel_rfl)
theorem sz40 : SzOk Try.prog 40 1 false := ⟨fun w => by kernel_rfl, fun w => by kernel_rfl⟩
theorem sz146 : SzOk Try.prog 146 1 false := ⟨fun w => by kernel_rfl, fun w => by kernel_rfl⟩
theorem en74 : EnterOk Try.prog 74 := EnterOk.of Try.func74 (by kernel_rfl) (by kernel_rfl)
theorem za22 : ∀ w, (zeroValue 22).run Try.prog w = .ok (.slice none 0 0) w := fun w => by kernel_rfl
theorem al22 : ∀ S w, (A.cells S w (.eq (.slice none 0 0)) (Value.cells (.slice none 0 0)).toList) := fun _ _ => ⟨rfl, rfl⟩
theorem za146 : ∀ w, (zeroValue 146).run Try.prog w = .ok .nilFunc w := fun w => by kernel_rfl
theorem al146 : ∀ S w, (A.cells S w (.eq .nilFunc) (Value.cells .nilFunc).toList) := fun _ _ => ⟨rfl, rfl⟩
theorem en54 : EnterOk Try.prog 54 := EnterOk.of Try.func54 (by kernel_rfl) (by kernel_rfl)
theorem en73 : EnterOk Try.prog 73 := EnterOk.of Try.func73 (by kernel_rfl) (by kernel_rfl)
theorem en13 : EnterOk Try.prog 13 := EnterOk.of Try.func13 (by kernel_rfl) (by kernel_rfl)
theorem en14 : EnterOk Try.prog 14 := EnterOk.of Try.func14 (by kernel_rfl) (by kernel_rfl)
theorem en15 : EnterOk Try.prog 15 := EnterOk.of Try.func15 (by kernel_rfl) (by kernel_rfl)
theorem en17 : EnterOk Try.prog 17 := EnterOk.of Try.func17 (by kernel_rfl) (by kernel_rfl)
theorem en18 : EnterOk Try.prog 18 := EnterOk.of Try.func18 (by kernel_rfl) (by kernel_rfl)
theorem sl60 : SlOk Try.prog 60 33 1 24 := .of (z := (.slice none 0 0)) Try.underlying60 (by kernel_rfl) rfl rfl rfl
theorem sl61 : SlOk Try.prog 61 30 1 8 := .of (z := (.int .i64 (0))) Try.underlying61 (by kernel_rfl) rfl rfl rfl
theorem en21 : EnterOk Try.prog 21 := EnterOk.of Try.func21 (by kernel_rfl) (by kernel_rfl)
theorem en23 : EnterOk Try.prog 23 := EnterOk.of Try.func23 (by kernel_rfl) (by kernel_rfl)
abbrev Rs (t : Ty) (l : (Ty.slice t).den) : A := .rep (.slice t) l
abbrev Pv (b : Nat) : Value := .pointer (some ⟨b, 0, none⟩)
abbrev Qc (q : dChange) : A := .agg (.pair (.rep (.slice tThing) q.1) (.pair (.rep (.slice tDresser) q.2.1) (.pair (Ri q.2.2.1) (Ri q.2.2.2))))
abbrev Qq (q : dChange × (List (Bool × Int)) × (List Int)) (m : A) : A := .agg (.pair (Qc q.1) (.pair (.rep (.slice (.tag 109 111)) q.2.1) (.pair (.rep (.arr 8 (.int .u8)) q.2.2) m)))
abbrev U109 := @Try.underlying109
abbrev U111 := @Try.underlying111
abbrev U113 := @Try.underlying113
abbrev U128 := @Try.underlying128
abbrev U138 := @Try.underlying138
abbrev U141 := @Try.underlying141
abbrev U143 := @Try.underlying143
abbrev U149 := @Try.underlying149
abbrev U152 := @Try.underlying152
abbrev U22 := @Try.underlying22
abbrev U23 := @Try.underlying23
abbrev U24 := @Try.underlying24
abbrev U3 := @Try.underlying3
abbrev U33 := @Try.underlying33
abbrev U45 := @Try.underlying45
abbrev U48 := @Try.underlying48
abbrev U5 := @Try.underlying5
abbrev U59 := @Try.underlying59
abbrev U60 := @Try.underlying60
abbrev U61 := @Try.underlying61
abbrev U74 := @Try.underlying74
abbrev U80 := @Try.underlying80
abbrev U9 := @Try.underlying9
abbrev U93 := @Try.underlying93
abbrev U95 := @Try.underlying95
abbrev U96 := @Try.underlying96
theorem nfs : false = false → 1 = 1 := fun _ => rfl
end Go.Proofs.Ytopgphikdglphaa
