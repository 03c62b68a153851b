import Derived.Test.YtfhdclhbdmhnmaaGreatB4
import Derived.Test.YtfhdclhbdmhnmaaGreatProg
namespace Go.Proofs.YtfhdclhbdmhnmaaGreat
open K Go Go.Proofs
/-! Facts about the program's types, by their numbers. -/
theorem mixed : Tryz.prog.follows .mixedOrders = true := by kernel_rfl
theorem nfn {n : Nat} : true = false → n = 1 := fun h => nomatch h
def len8tab : ByteArray := ⟨#[0, 1, 2, 2, 3, 3, 3, 3, 4, 4, 4, 4, 4, 4, 4, 4, 5, 5, 5, 5, 5, 5, 5, 5, 5, 5, 5, 5, 5, 5, 5, 5, 6, 6, 6, 6, 6, 6, 6, 6, 6, 6, 6, 6, 6, 6, 6, 6, 6, 6, 6, 6, 6, 6, 6, 6, 6, 6, 6, 6, 6, 6, 6, 6, 7, 7, 7, 7, 7, 7, 7, 7, 7, 7, 7, 7, 7, 7, 7, 7, 7, 7, 7, 7, 7, 7, 7, 7, 7, 7, 7, 7, 7, 7, 7, 7, 7, 7, 7, 7, 7, 7, 7, 7, 7, 7, 7, 7, 7, 7, 7, 7, 7, 7, 7, 7, 7, 7, 7, 7, 7, 7, 7, 7, 7, 7, 7, 7, 8, 8, 8, 8, 8, 8, 8, 8, 8, 8, 8, 8, 8, 8, 8, 8, 8, 8, 8, 8, 8, 8, 8, 8, 8, 8, 8, 8, 8, 8, 8, 8, 8, 8, 8, 8, 8, 8, 8, 8, 8, 8, 8, 8, 8, 8, 8, 8, 8, 8, 8, 8, 8, 8, 8, 8, 8, 8, 8, 8, 8, 8, 8, 8, 8, 8, 8, 8, 8, 8, 8, 8, 8, 8, 8, 8, 8, 8, 8, 8, 8, 8, 8, 8, 8, 8, 8, 8, 8, 8, 8, 8, 8, 8, 8, 8, 8, 8, 8, 8, 8, 8, 8, 8, 8, 8, 8, 8, 8, 8, 8, 8, 8, 8, 8, 8, 8, 8, 8, 8, 8, 8, 8, 8, 8, 8, 8, 8]⟩
@[reducible] def tThing : Ty := .agg (.pair (.slice (.int .i64)) (.pair (.int .i64) (.pair (.int .i64) (.pair (.int .i64) (.int .i64)))))
abbrev dThing := ((List Int) × (Int × (Int × (Int × Int))))
@[reducible] def tDresser : Ty := .agg (.pair (.slice (.int .i64)) (.pair (.int .i64) (.int .i64)))
abbrev dDresser := ((List Int) × (Int × Int))
@[reducible] def tChange : Ty := .agg (.pair (.slice tThing) (.pair (.slice tDresser) (.pair (.slice (.int .i64)) (.slice (.int .i64)))))
abbrev dChange := ((List dThing) × ((List dDresser) × ((List Int) × (List Int))))
@[reducible] def tLots : Ty := .agg (.pair (.slice (.int .i64)) (.pair (.int .i64) (.int .u64)))
abbrev dLots := ((List Int) × (Int × Int))
@[reducible] def tStep : Ty := .agg (.pair (.int .i64) (.int .i64))
abbrev dStep := (Int × Int)
@[reducible] def tquick : Ty := .agg (.pair tChange (.pair (.slice (.tag 107 143)) (.pair (.arr 8 (.int .u8)) .ign)))
abbrev dquick := (dChange × ((List (Bool × Int)) × ((List Int) × Unit)))
@[reducible] def tTask : Ty := .agg (.pair (.int .i64) .bool)
abbrev dTask := (Int × Bool)
theorem fo26_0 : FieldOk Tryz.prog 26 0 0 := fun w b k => by kernel_rfl
theorem sz22 : SzOk Tryz.prog 22 1 false := ⟨fun w => by kernel_rfl, fun w => by kernel_rfl⟩
theorem fo26_1 : FieldOk Tryz.prog 26 1 1 := fun w b k => by kernel_rfl
theorem sz23 : SzOk Tryz.prog 23 1 false := ⟨fun w => by kernel_rfl, fun w => by kernel_rfl⟩
theorem fo26_2 : FieldOk Tryz.prog 26 2 2 := fun w b k => by kernel_rfl
theorem sz24 : SzOk Tryz.prog 24 1 false := ⟨fun w => by kernel_rfl, fun w => by kernel_rfl⟩
theorem fo26_3 : FieldOk Tryz.prog 26 3 3 := fun w b k => by kernel_rfl
theorem sz74 : SzOk Tryz.prog 74 5 true := ⟨fun w => by kernel_rfl, fun w => by kernel_rfl⟩
theorem fo74_0 : FieldOk Tryz.prog 74 0 0 := fun w b k => by kernel_rfl
theorem sz52 : SzOk Tryz.prog 52 3 true := ⟨fun w => by kernel_rfl, fun w => by kernel_rfl⟩
theorem fo52_0 : FieldOk Tryz.prog 52 0 0 := fun w b k => by kernel_rfl
theorem sz3 : SzOk Tryz.prog 3 1 false := ⟨fun w => by kernel_rfl, fun w => by kernel_rfl⟩
theorem en94 : EnterOk Tryz.prog 94 := EnterOk.of Tryz.func94 (by kernel_rfl) (by kernel_rfl)
theorem sl24 : SlOk Tryz.prog 24 3 1 8 := .of (z := (.int .i64 (0))) Tryz.underlying24 (by kernel_rfl) rfl rfl rfl
theorem en67 : EnterOk Tryz.prog 67 := EnterOk.of Tryz.func67 (by kernel_rfl) (by kernel_rfl)
theorem en66 : EnterOk Tryz.prog 66 := EnterOk.of Tryz.func66 (by kernel_rfl) (by kernel_rfl)
theorem za74 : ∀ w, (zeroValue 74).run Tryz.prog w = .ok (.agg #[(.slice none 0 0), (.int .i64 (0)), (.int .i64 (0)), (.int .i64 (0)), (.int .i64 (0))]) w := fun w => by kernel_rfl
theorem al74 : ∀ S w, (A.cells S w (.agg (.pair (.eq (.slice none 0 0)) (.pair (.eq (.int .i64 (0 : Int))) (.pair (.eq (.int .i64 (0 : Int))) (.pair (.eq (.int .i64 (0 : Int))) (.eq (.int .i64 (0 : Int)))))))) (Value.cells (.agg #[(.slice none 0 0), (.int .i64 (0)), (.int .i64 (0)), (.int .i64 (0)), (.int .i64 (0))])).toList) := fun _ _ => ⟨[_], _, rfl, ⟨rfl, rfl⟩, ⟨[_], _, rfl, ⟨rfl, rfl⟩, ⟨[_], _, rfl, ⟨rfl, rfl⟩, ⟨[_], _, rfl, ⟨rfl, rfl⟩, ⟨rfl, rfl⟩⟩⟩⟩⟩
theorem en113 : EnterOk Tryz.prog 113 := EnterOk.of Tryz.func113 (by kernel_rfl) (by kernel_rfl)
theorem fo74_1 : FieldOk Tryz.prog 74 1 1 := fun w b k => by kernel_rfl
theorem fo74_2 : FieldOk Tryz.prog 74 2 2 := fun w b k => by kernel_rfl
theorem fo74_3 : FieldOk Tryz.prog 74 3 3 := fun w b k => by kernel_rfl
theorem fo74_4 : FieldOk Tryz.prog 74 4 4 := fun w b k => by kernel_rfl
theorem za186 : ∀ w, (zeroValue 186).run Tryz.prog w = .ok (.agg #[(.int .u8 (0)), (.int .u8 (0)), (.int .u8 (0)), (.int .u8 (0))]) w := fun w => by kernel_rfl
theorem al186 : ∀ S w, (A.cells S w (.rep (.arr 4 (.int .u8)) [(0 : Int), (0 : Int), (0 : Int), (0 : Int)]) (Value.cells (.agg #[(.int .u8 (0)), (.int .u8 (0)), (.int .u8 (0)), (.int .u8 (0))])).toList) := fun _ _ => ⟨rfl, ⟨[_], _, rfl, rfl, ⟨[_], _, rfl, rfl, ⟨[_], _, rfl, rfl, ⟨[_], _, rfl, rfl, rfl⟩⟩⟩⟩⟩
theorem sz95 : SzOk Tryz.prog 95 1 false := ⟨fun w => by kernel_rfl, fun w => by kernel_rfl⟩
theorem en57 : EnterOk Tryz.prog 57 := EnterOk.of Tryz.func57 (by kernel_rfl) (by kernel_rfl)
theorem sz26 : SzOk Tryz.prog 26 4 true := ⟨fun w => by kernel_rfl, fun w => by kernel_rfl⟩
theorem en112 : EnterOk Tryz.prog 112 := EnterOk.of Tryz.func112 (by kernel_rfl) (by kernel_rfl)
theorem za52 : ∀ w, (zeroValue 52).run Tryz.prog w = .ok (.agg #[(.slice none 0 0), (.int .i64 (0)), (.int .i64 (0))]) w := fun w => by kernel_rfl
theorem al52 : ∀ S w, (A.cells S w (.agg (.pair (.eq (.slice none 0 0)) (.pair (.eq (.int .i64 (0 : Int))) (.eq (.int .i64 (0 : Int)))))) (Value.cells (.agg #[(.slice none 0 0), (.int .i64 (0)), (.int .i64 (0))])).toList) := fun _ _ => ⟨[_], _, rfl, ⟨rfl, rfl⟩, ⟨[_], _, rfl, ⟨rfl, rfl⟩, ⟨rfl, rfl⟩⟩⟩
theorem fo52_1 : FieldOk Tryz.prog 52 1 1 := fun w b k => by kernel_rfl
theorem fo52_2 : FieldOk Tryz.prog 52 2 2 := fun w b k => by kernel_rfl
theorem sz80 : SzOk Tryz.prog 80 1 false := ⟨fun w => by kernel_rfl, fun w => by kernel_rfl⟩
theorem fo101_2 : FieldOk Tryz.prog 101 2 5 := fun w b k => by kernel_rfl
theorem fo101_1 : FieldOk Tryz.prog 101 1 4 := fun w b k => by kernel_rfl
theorem sz97 : SzOk Tryz.prog 97 1 false := ⟨fun w => by kernel_rfl, fun w => by kernel_rfl⟩
theorem sz106 : SzOk Tryz.prog 106 1 false := ⟨fun w => by kernel_rfl, fun w => by kernel_rfl⟩
theorem ta107 : TaOk Tryz.prog 107 := ⟨Tryz.underlying107, fun w => by kernel_rfl⟩
theorem mt107_thing : MthOk Tryz.prog 107 "galloon/change.thing" 156 := fun n w => by kernel_rfl
theorem mt143_thing : MthOk Tryz.prog 143 "galloon/change.thing" 157 := fun n w => by kernel_rfl
theorem ta143 : TaOk Tryz.prog 143 := ⟨Tryz.underlying143, fun w => by kernel_rfl⟩
theorem fo101_0 : FieldOk Tryz.prog 101 0 0 := fun w b k => by kernel_rfl
theorem en115 : EnterOk Tryz.prog 115 := EnterOk.of Tryz.func115 (by kernel_rfl) (by kernel_rfl)
theorem en114 : EnterOk Tryz.prog 114 := EnterOk.of Tryz.func114 (by kernel_rfl) (by kernel_rfl)
theorem en88 : EnterOk Tryz.prog 88 := EnterOk.of Tryz.func88 (by kernel_rfl) (by kernel_rfl)
theorem pl101 : BdOk Tryz.prog 101 #[(0, 4), (4, 1), (5, 8), (13, 1)] := ⟨_, Tryz.underlying101, fun _ => by kernel_rfl⟩
theorem za101 : ∀ w, (zeroValue 101).run Tryz.prog w = .ok (.agg #[(.slice none 0 0), (.slice none 0 0), (.slice none 0 0), (.slice none 0 0), (.slice none 0 0), (.int .u8 (0)), (.int .u8 (0)), (.int .u8 (0)), (.int .u8 (0)), (.int .u8 (0)), (.int .u8 (0)), (.int .u8 (0)), (.int .u8 (0)), (.map none)]) w := fun w => by kernel_rfl
theorem alb101 : ∀ S w, (A.cells S w (.pair (.agg (.pair (.eq (.slice none 0 0)) (.pair (.eq (.slice none 0 0)) (.pair (.eq (.slice none 0 0)) (.eq (.slice none 0 0)))))) (.pair (.eq (.slice none 0 0)) (.pair (.rep (.arr 8 (.int .u8)) [(0 : Int), (0 : Int), (0 : Int), (0 : Int), (0 : Int), (0 : Int), (0 : Int), (0 : Int)]) (.eq (.map none))))) (Value.cells (.agg #[(.slice none 0 0), (.slice none 0 0), (.slice none 0 0), (.slice none 0 0), (.slice none 0 0), (.int .u8 (0)), (.int .u8 (0)), (.int .u8 (0)), (.int .u8 (0)), (.int .u8 (0)), (.int .u8 (0)), (.int .u8 (0)), (.int .u8 (0)), (.map none)])).toList) := fun _ _ => ⟨[_, _, _, _], _, rfl, ⟨[_], _, rfl, ⟨rfl, rfl⟩, ⟨[_], _, rfl, ⟨rfl, rfl⟩, ⟨[_], _, rfl, ⟨rfl, rfl⟩, ⟨rfl, rfl⟩⟩⟩⟩, ⟨[_], _, rfl, ⟨rfl, rfl⟩, ⟨[_, _, _, _, _, _, _, _], _, rfl, ⟨rfl, ⟨[_], _, rfl, rfl, ⟨[_], _, rfl, rfl, ⟨[_], _, rfl, rfl, ⟨[_], _, rfl, rfl, ⟨[_], _, rfl, rfl, ⟨[_], _, rfl, rfl, ⟨[_], _, rfl, rfl, ⟨[_], _, rfl, rfl, rfl⟩⟩⟩⟩⟩⟩⟩⟩⟩, ⟨rfl, rfl⟩⟩⟩⟩
theorem en89 : EnterOk Tryz.prog 89 := EnterOk.of Tryz.func89 (by kernel_rfl) (by kernel_rfl)
theorem en59 : EnterOk Tryz.prog 59 := EnterOk.of Tryz.func59 (by kernel_rfl) (by kernel_rfl)
theorem sl97 : SlOk Tryz.prog 97 106 1 16 := .of (z := .nilIface) Tryz.underlying97 (by kernel_rfl) rfl rfl rfl
theorem en90 : EnterOk Tryz.prog 90 := EnterOk.of Tryz.func90 (by kernel_rfl) (by kernel_rfl)
theorem sl34 : SlOk Tryz.prog 34 92 2 16 := .of (z := (.agg #[(.int .i64 (0)), (.int .i64 (0))])) Tryz.underlying34 (by kernel_rfl) rfl rfl rfl
theorem en107 : EnterOk Tryz.prog 107 := EnterOk.of Tryz.func107 (by kernel_rfl) (by kernel_rfl)
theorem en76 : EnterOk Tryz.prog 76 := EnterOk.of Tryz.func76 (by kernel_rfl) (by kernel_rfl)
theorem sz34 : SzOk Tryz.prog 34 1 false := ⟨fun w => by kernel_rfl, fun w => by kernel_rfl⟩
theorem sz144 : SzOk Tryz.prog 144 1 false := ⟨fun w => by kernel_rfl, fun w => by kernel_rfl⟩
theorem en93 : EnterOk Tryz.prog 93 := EnterOk.of Tryz.func93 (by kernel_rfl) (by kernel_rfl)
theorem en95 : EnterOk Tryz.prog 95 := EnterOk.of Tryz.func95 (by kernel_rfl) (by kernel_rfl)
theorem pl92 : BdOk Tryz.prog 92 #[(0, 1), (1, 1)] := ⟨_, Tryz.underlying92, fun _ => by kernel_rfl⟩
theorem za92 : ∀ w, (zeroValue 92).run Tryz.prog w = .ok (.agg #[(.int .i64 (0)), (.int .i64 (0))]) w := fun w => by kernel_rfl
theorem alb92 : ∀ S w, (A.cells S w (.pair (.eq (.int .i64 (0 : Int))) (.eq (.int .i64 (0 : Int)))) (Value.cells (.agg #[(.int .i64 (0)), (.int .i64 (0))])).toList) := fun _ _ => ⟨[_], _, rfl, ⟨rfl, rfl⟩, ⟨rfl, rfl⟩⟩
theorem sz145 : SzOk Tryz.prog 145 1 false := ⟨fun w => by kernel_rfl, fun w => by kernel_rfl⟩
theorem en92 : EnterOk Tryz.prog 92 := EnterOk.of Tryz.func92 (by kernel_rfl) (by kernel_rfl)
theorem sz92 : SzOk Tryz.prog 92 2 true := ⟨fun w => by kernel_rfl, fun w => by kernel_rfl⟩
theorem za34 : ∀ w, (zeroValue 34).run Tryz.prog w = .ok (.slice none 0 0) w := fun w => by kernel_rfl
theorem al34 : ∀ S w, (A.cells S w (.eq (.slice none 0 0)) (Value.cells (.slice none 0 0)).toList) := fun _ _ => ⟨rfl, rfl⟩
theorem za145 : ∀ w, (zeroValue 145).run Tryz.prog w = .ok .nilFunc w := fun w => by kernel_rfl
theorem al145 : ∀ S w, (A.cells S w (.eq .nilFunc) (Value.cells .nilFunc).toList) := fun _ _ => ⟨rfl, rfl⟩
theorem za102 : ∀ w, (zeroValue 102).run Tryz.prog w = .ok (.agg #[(.int .i64 (0)), (.int .i64 (0)), (.int .i64 (0)), (.int .i64 (0))]) w := fun w => by kernel_rfl
theorem al102 : ∀ S w, (A.cells S w (.rep (.arr 4 (.int .i64)) [(0 : Int), (0 : Int), (0 : Int), (0 : Int)]) (Value.cells (.agg #[(.int .i64 (0)), (.int .i64 (0)), (.int .i64 (0)), (.int .i64 (0))])).toList) := fun _ _ => ⟨rfl, ⟨[_], _, rfl, rfl, ⟨[_], _, rfl, rfl, ⟨[_], _, rfl, rfl, ⟨[_], _, rfl, rfl, rfl⟩⟩⟩⟩⟩
theorem za155 : ∀ w, (zeroValue 155).run Tryz.prog w = .ok (.agg #[(.int .i64 (0)), (.int .i64 (0)), (.int .i64 (0))]) w := fun w => by kernel_rfl
theorem al155 : ∀ S w, (A.cells S w (.rep (.arr 3 (.int .i64)) [(0 : Int), (0 : Int), (0 : Int)]) (Value.cells (.agg #[(.int .i64 (0)), (.int .i64 (0)), (.int .i64 (0))])).toList) := fun _ _ => ⟨rfl, ⟨[_], _, rfl, rfl, ⟨[_], _, rfl, rfl, ⟨[_], _, rfl, rfl, rfl⟩⟩⟩⟩
theorem al92 : ∀ S w, (A.cells S w (.agg (.pair (.eq (.int .i64 (0 : Int))) (.eq (.int .i64 (0 : Int))))) (Value.cells (.agg #[(.int .i64 (0)), (.int .i64 (0))])).toList) := fun _ _ => ⟨[_], _, rfl, ⟨rfl, rfl⟩, ⟨rfl, rfl⟩⟩
theorem fo92_1 : FieldOk Tryz.prog 92 1 1 := fun w b k => by kernel_rfl
theorem fo92_0 : FieldOk Tryz.prog 92 0 0 := fun w b k => by kernel_rfl
theorem en103 : EnterOk Tryz.prog 103 := EnterOk.of Tryz.func103 (by kernel_rfl) (by kernel_rfl)
theorem sz102 : SzOk Tryz.prog 102 4 true := ⟨fun w => by kernel_rfl, fun w => by kernel_rfl⟩
theorem za148 : ∀ w, (zeroValue 148).run Tryz.prog w = .ok (.agg #[(.int .i64 (0)), (.int .i64 (0)), (.int .i64 (0)), (.int .i64 (0)), (.int .i64 (0)), (.int .i64 (0)), (.int .i64 (0)), (.int .i64 (0))]) w := fun w => by kernel_rfl
theorem al148 : ∀ S w, (A.cells S w (.rep (.arr 4 tStep) [((0 : Int), (0 : Int)), ((0 : Int), (0 : Int)), ((0 : Int), (0 : Int)), ((0 : Int), (0 : Int))]) (Value.cells (.agg #[(.int .i64 (0)), (.int .i64 (0)), (.int .i64 (0)), (.int .i64 (0)), (.int .i64 (0)), (.int .i64 (0)), (.int .i64 (0)), (.int .i64 (0))])).toList) := fun _ _ => ⟨rfl, ⟨[_, _], _, rfl, ⟨[_], _, rfl, rfl, rfl⟩, ⟨[_, _], _, rfl, ⟨[_], _, rfl, rfl, rfl⟩, ⟨[_, _], _, rfl, ⟨[_], _, rfl, rfl, rfl⟩, ⟨[_, _], _, rfl, ⟨[_], _, rfl, rfl, rfl⟩, rfl⟩⟩⟩⟩⟩
theorem sz148 : SzOk Tryz.prog 148 8 true := ⟨fun w => by kernel_rfl, fun w => by kernel_rfl⟩
theorem en96 : EnterOk Tryz.prog 96 := EnterOk.of Tryz.func96 (by kernel_rfl) (by kernel_rfl)
theorem zvLine : ∀ w, (zeroValue 3).run Tryz.prog w = .ok (.int .i64 0) w := fun w => by kernel_rfl
theorem fo101_3 : FieldOk Tryz.prog 101 3 13 := fun w b k => by kernel_rfl
theorem sz99 : SzOk Tryz.prog 99 1 false := ⟨fun w => by kernel_rfl, fun w => by kernel_rfl⟩
theorem en58 : EnterOk Tryz.prog 58 := EnterOk.of Tryz.func58 (by kernel_rfl) (by kernel_rfl)
theorem en97 : EnterOk Tryz.prog 97 := EnterOk.of Tryz.func97 (by kernel_rfl) (by kernel_rfl)
theorem za3 : ∀ w, (zeroValue 3).run Tryz.prog w = .ok (.int .i64 (0)) w := fun w => by kernel_rfl
theorem al3 : ∀ S w, (A.cells S w (.eq (.int .i64 (0 : Int))) (Value.cells (.int .i64 (0))).toList) := fun _ _ => ⟨rfl, rfl⟩
theorem za4 : ∀ w, (zeroValue 4).run Tryz.prog w = .ok (.bool false) w := fun w => by kernel_rfl
theorem al4 : ∀ S w, (A.cells S w (.eq (.bool false)) (Value.cells (.bool false)).toList) := fun _ _ => ⟨rfl, rfl⟩
theorem sz4 : SzOk Tryz.prog 4 1 false := ⟨fun w => by kernel_rfl, fun w => by kernel_rfl⟩
theorem sz88 : SzOk Tryz.prog 88 1 false := ⟨fun w => by kernel_rfl, fun w => by kernel_rfl⟩
theorem en52 : EnterOk Tryz.prog 52 := EnterOk.of Tryz.func52 (by kernel_rfl) (by kernel_rfl)
theorem en91 : EnterOk Tryz.prog 91 := EnterOk.of Tryz.func91 (by kernel_rfl) (by kernel_rfl)
theorem en49 : EnterOk Tryz.prog 49 := EnterOk.of Tryz.func49 (by kernel_rfl) (by kernel_rfl)
theorem en51 : EnterOk Tryz.prog 51 := EnterOk.of Tryz.func51 (by kernel_rfl) (by kernel_rfl)
theorem en50 : EnterOk Tryz.prog 50 := EnterOk.of Tryz.func50 (by kernel_rfl) (by kernel_rfl)
theorem eq92 : EqOk Tryz.prog 92 tStep := by
  refine ⟨rfl, by kernel_rfl, fun w x y => ?_⟩
  have u3 := Tryz.underlying3
  have a3 := Tryz.isAgg3
  have z3 := Tryz.sizeOf3
  have hS : Tryz.prog.underlying 92 = some (.struct (Tryz.prog.fieldsOf 92)) := by kernel_rfl
  have hp : Tryz.prog.stoodInHeld 92 = false := by kernel_rfl
  rw [show (10000 : Nat) = 9999 + 1 from rfl, run_equalIn_agg w 9999 92 _ _ hS hp]
  simp only [Program.fieldsOf, Tryz.underlying92, encT]
  refine ⟨decide (x = y), ?_, decide_eq_true_iff⟩
  go_simp
  obtain ⟨p0, p1⟩ := x
  obtain ⟨q0, q1⟩ := y
  by_cases h0 : p0 = q0 <;> by_cases h1 : p1 = q1 <;> simp [h0, h1]
theorem en119 : EnterOk Tryz.prog 119 := EnterOk.of Tryz.func119 (by kernel_rfl) (by kernel_rfl)
theorem sz35 : SzOk Tryz.prog 35 1 false := ⟨fun w => by kernel_rfl, fun w => by kernel_rfl⟩
theorem ta172 : TaOk Tryz.prog 172 := ⟨Tryz.underlying172, fun w => by kernel_rfl⟩
theorem za35 : ∀ w, (zeroValue 35).run Tryz.prog w = .ok (.int .i64 (0)) w := fun w => by kernel_rfl
theorem al35 : ∀ S w, (A.cells S w (.eq (.int .i64 (0 : Int))) (Value.cells (.int .i64 (0))).toList) := fun _ _ => ⟨rfl, rfl⟩
theorem en102 : EnterOk Tryz.prog 102 := EnterOk.of Tryz.func102 (by kernel_rfl) (by kernel_rfl)
theorem en56 : EnterOk Tryz.prog 56 := EnterOk.of Tryz.func56 (by kernel_rfl) (by kernel_rfl)
theorem sl23 : SlOk Tryz.prog 23 52 3 40 := .of (z := (.agg #[(.slice none 0 0), (.int .i64 (0)), (.int .i64 (0))])) Tryz.underlying23 (by kernel_rfl) rfl rfl rfl
theorem za26 : ∀ w, (zeroValue 26).run Tryz.prog w = .ok (.agg #[(.slice none 0 0), (.slice none 0 0), (.slice none 0 0), (.slice none 0 0)]) w := fun w => by kernel_rfl
theorem al26 : ∀ S w, (A.cells S w (.agg (.pair (.eq (.slice none 0 0)) (.pair (.eq (.slice none 0 0)) (.pair (.eq (.slice none 0 0)) (.eq (.slice none 0 0)))))) (Value.cells (.agg #[(.slice none 0 0), (.slice none 0 0), (.slice none 0 0), (.slice none 0 0)])).toList) := fun _ _ => ⟨[_], _, rfl, ⟨rfl, rfl⟩, ⟨[_], _, rfl, ⟨rfl, rfl⟩, ⟨[_], _, rfl, ⟨rfl, rfl⟩, ⟨rfl, rfl⟩⟩⟩⟩
theorem sl120 : SlOk Tryz.prog 120 80 1 8 := .of (z := (.pointer none)) Tryz.underlying120 (by kernel_rfl) rfl rfl rfl
theorem en68 : EnterOk Tryz.prog 68 := EnterOk.of Tryz.func68 (by kernel_rfl) (by kernel_rfl)
theorem en69 : EnterOk Tryz.prog 69 := EnterOk.of Tryz.func69 (by kernel_rfl) (by kernel_rfl)
theorem en138 : EnterOk Tryz.prog 138 := EnterOk.of Tryz.func138 (by kernel_rfl) (by kernel_rfl)
theorem en128 : EnterOk Tryz.prog 128 := EnterOk.of Tryz.func128 (by kernel_rfl) (by kernel_rfl)
theorem en132 : EnterOk Tryz.prog 132 := EnterOk.of Tryz.func132 (by kernel_rfl) (by kernel_rfl)
theorem en122 : EnterOk Tryz.prog 122 := EnterOk.of Tryz.func122 (by kernel_rfl) (by kernel_rfl)
theorem en109 : EnterOk Tryz.prog 109 := EnterOk.of Tryz.func109 (by kernel_rfl) (by kernel_rfl)
theorem en108 : EnterOk Tryz.prog 108 := EnterOk.of Tryz.func108 (by kernel_rfl) (by kernel_rfl)
theorem en77 : EnterOk Tryz.prog 77 := EnterOk.of Tryz.func77 (by kernel_rfl) (by kernel_rfl)
theorem en78 : EnterOk Tryz.prog 78 := EnterOk.of Tryz.func78 (by kernel_rfl) (by kernel_rfl)
theorem en81 : EnterOk Tryz.prog 81 := EnterOk.of Tryz.func81 (by kernel_rfl) (by kernel_rfl)
theorem pl74 : BdOk Tryz.prog 74 #[(0, 1), (1, 1), (2, 1), (3, 1), (4, 1)] := ⟨_, Tryz.underlying74, fun _ => by kernel_rfl⟩
theorem alb74 : ∀ S w, (A.cells S w (.pair (.eq (.slice none 0 0)) (.pair (.eq (.int .i64 (0 : Int))) (.pair (.eq (.int .i64 (0 : Int))) (.pair (.eq (.int .i64 (0 : Int))) (.eq (.int .i64 (0 : Int))))))) (Value.cells (.agg #[(.slice none 0 0), (.int .i64 (0)), (.int .i64 (0)), (.int .i64 (0)), (.int .i64 (0))])).toList) := fun _ _ => ⟨[_], _, rfl, ⟨rfl, rfl⟩, ⟨[_], _, rfl, ⟨rfl, rfl⟩, ⟨[_], _, rfl, ⟨rfl, rfl⟩, ⟨[_], _, rfl, ⟨rfl, rfl⟩, ⟨rfl, rfl⟩⟩⟩⟩⟩
theorem sl22 : SlOk Tryz.prog 22 74 5 56 := .of (z := (.agg #[(.slice none 0 0), (.int .i64 (0)), (.int .i64 (0)), (.int .i64 (0)), (.int .i64 (0))])) Tryz.underlying22 (by kernel_rfl) rfl rfl rfl
theorem pl52 : BdOk Tryz.prog 52 #[(0, 1), (1, 1), (2, 1)] := ⟨_, Tryz.underlying52, fun _ => by kernel_rfl⟩
theorem alb52 : ∀ S w, (A.cells S w (.pair (.eq (.slice none 0 0)) (.pair (.eq (.int .i64 (0 : Int))) (.eq (.int .i64 (0 : Int))))) (Value.cells (.agg #[(.slice none 0 0), (.int .i64 (0)), (.int .i64 (0))])).toList) := fun _ _ => ⟨[_], _, rfl, ⟨rfl, rfl⟩, ⟨[_], _, rfl, ⟨rfl, rfl⟩, ⟨rfl, rfl⟩⟩⟩
theorem pl26 : BdOk Tryz.prog 26 #[(0, 1), (1, 1), (2, 1), (3, 1)] := ⟨_, Tryz.underlying26, fun _ => by kernel_rfl⟩
theorem alb26 : ∀ S w, (A.cells S w (.pair (.eq (.slice none 0 0)) (.pair (.eq (.slice none 0 0)) (.pair (.eq (.slice none 0 0)) (.eq (.slice none 0 0))))) (Value.cells (.agg #[(.slice none 0 0), (.slice none 0 0), (.slice none 0 0), (.slice none 0 0)])).toList) := fun _ _ => ⟨[_], _, rfl, ⟨rfl, rfl⟩, ⟨[_], _, rfl, ⟨rfl, rfl⟩, ⟨[_], _, rfl, ⟨rfl, rfl⟩, ⟨rfl, rfl⟩⟩⟩⟩
theorem en47 : EnterOk Tryz.prog 47 := EnterOk.of Tryz.func47 (by kernel_rfl) (by kernel_rfl)
theorem en14 : EnterOk Tryz.prog 14 := EnterOk.of Tryz.func14 (by kernel_rfl) (by kernel_rfl)
theorem en48 : EnterOk Tryz.prog 48 := EnterOk.of Tryz.func48 (by kernel_rfl) (by kernel_rfl)
theorem en31 : EnterOk Tryz.prog 31 := EnterOk.of Tryz.func31 (by kernel_rfl) (by kernel_rfl)
theorem en41 : EnterOk Tryz.prog 41 := EnterOk.of Tryz.func41 (by kernel_rfl) (by kernel_rfl)
theorem en37 : EnterOk Tryz.prog 37 := EnterOk.of Tryz.func37 (by kernel_rfl) (by kernel_rfl)
theorem en20 : EnterOk Tryz.prog 20 := EnterOk.of Tryz.func20 (by kernel_rfl) (by kernel_rfl)
theorem sl29 : SlOk Tryz.prog 29 26 4 96 := .of (z := (.agg #[(.slice none 0 0), (.slice none 0 0), (.slice none 0 0), (.slice none 0 0)])) Tryz.underlying29 (by kernel_rfl) rfl rfl rfl
theorem en29 : EnterOk Tryz.prog 29 := EnterOk.of Tryz.func29 (by kernel_rfl) (by kernel_rfl)
theorem en39 : EnterOk Tryz.prog 39 := EnterOk.of Tryz.func39 (by kernel_rfl) (by kernel_rfl)
theorem en16 : EnterOk Tryz.prog 16 := EnterOk.of Tryz.func16 (by kernel_rfl) (by kernel_rfl)
theorem en22 : EnterOk Tryz.prog 22 := EnterOk.of Tryz.func22 (by kernel_rfl) (by kernel_rfl)
theorem en28 : EnterOk Tryz.prog 28 := EnterOk.of Tryz.func28 (by kernel_rfl) (by kernel_rfl)
theorem fo79_2 : FieldOk Tryz.prog 79 2 2 := fun w b k => by kernel_rfl
theorem sz77 : SzOk Tryz.prog 77 1 false := ⟨fun w => by kernel_rfl, fun w => by kernel_rfl⟩
theorem fo79_1 : FieldOk Tryz.prog 79 1 1 := fun w b k => by kernel_rfl
theorem fo79_0 : FieldOk Tryz.prog 79 0 0 := fun w b k => by kernel_rfl
theorem en64 : EnterOk Tryz.prog 64 := EnterOk.of Tryz.func64 (by kernel_rfl) (by kernel_rfl)
theorem en23 : EnterOk Tryz.prog 23 := EnterOk.of Tryz.func23 (by kernel_rfl) (by kernel_rfl)
theorem sl111 : SlOk Tryz.prog 111 4 1 1 := .of (z := (.bool false)) Tryz.underlying111 (by kernel_rfl) rfl rfl rfl
theorem zr4 : ∀ i z, Tryz.prog.info? 4 = some i → i.zero = some z → ∀ S w, rd S w .bool false z.cells.toList := zrd_of (z0 := (.bool false)) (by kernel_rfl) fun _ _ => rfl
theorem en101 : EnterOk Tryz.prog 101 := EnterOk.of Tryz.func101 (by kernel_rfl) (by kernel_rfl)
theorem pl116 : BdOk Tryz.prog 116 #[(0, 1), (1, 1)] := ⟨_, Tryz.underlying116, fun _ => by kernel_rfl⟩
theorem za116 : ∀ w, (zeroValue 116).run Tryz.prog w = .ok (.agg #[(.int .i64 (0)), (.bool false)]) w := fun w => by kernel_rfl
theorem alb116 : ∀ S w, (A.cells S w (.pair (.eq (.int .i64 (0 : Int))) (.eq (.bool false))) (Value.cells (.agg #[(.int .i64 (0)), (.bool false)])).toList) := fun _ _ => ⟨[_], _, rfl, ⟨rfl, rfl⟩, ⟨rfl, rfl⟩⟩
theorem sl112 : SlOk Tryz.prog 112 116 2 16 := .of (z := (.agg #[(.int .i64 (0)), (.bool false)])) Tryz.underlying112 (by kernel_rfl) rfl rfl rfl
theorem en27 : EnterOk Tryz.prog 27 := EnterOk.of Tryz.func27 (by kernel_rfl) (by kernel_rfl)
theorem en25 : EnterOk Tryz.prog 25 := EnterOk.of Tryz.func25 (by kernel_rfl) (by kernel_rfl)
theorem en26 : EnterOk Tryz.prog 26 := EnterOk.of Tryz.func26 (by kernel_rfl) (by kernel_rfl)
theorem en65 : EnterOk Tryz.prog 65 := EnterOk.of Tryz.func65 (by kernel_rfl) (by kernel_rfl)
theorem en24 : EnterOk Tryz.prog 24 := EnterOk.of Tryz.func24 (by kernel_rfl) (by kernel_rfl)
theorem en13 : EnterOk Tryz.prog 13 := EnterOk.of Tryz.func13 (by kernel_rfl) (by kernel_rfl)
theorem pl79 : BdOk Tryz.prog 79 #[(0, 1), (1, 1), (2, 1)] := ⟨_, Tryz.underlying79, fun _ => by kernel_rfl⟩
theorem za79 : ∀ w, (zeroValue 79).run Tryz.prog w = .ok (.agg #[(.slice none 0 0), (.int .i64 (0)), (.int .u64 (0))]) w := fun w => by kernel_rfl
theorem alb79 : ∀ S w, (A.cells S w (.pair (.eq (.slice none 0 0)) (.pair (.eq (.int .i64 (0 : Int))) (.eq (.int .u64 (0 : Int))))) (Value.cells (.agg #[(.slice none 0 0), (.int .i64 (0)), (.int .u64 (0))])).toList) := fun _ _ => ⟨[_], _, rfl, ⟨rfl, rfl⟩, ⟨[_], _, rfl, ⟨rfl, rfl⟩, ⟨rfl, rfl⟩⟩⟩
theorem en79 : EnterOk Tryz.prog 79 := EnterOk.of Tryz.func79 (by kernel_rfl) (by kernel_rfl)
theorem en105 : EnterOk Tryz.prog 105 := EnterOk.of Tryz.func105 (by kernel_rfl) (by kernel_rfl)
theorem en71 : EnterOk Tryz.prog 71 := EnterOk.of Tryz.func71 (by kernel_rfl) (by kernel_rfl)
theorem en70 : EnterOk Tryz.prog 70 := EnterOk.of Tryz.func70 (by kernel_rfl) (by kernel_rfl)
theorem en116 : EnterOk Tryz.prog 116 := EnterOk.of Tryz.func116 (by kernel_rfl) (by kernel_rfl)
theorem en117 : EnterOk Tryz.prog 117 := EnterOk.of Tryz.func117 (by kernel_rfl) (by kernel_rfl)
theorem en98 : EnterOk Tryz.prog 98 := EnterOk.of Tryz.func98 (by kernel_rfl) (by kernel_rfl)
theorem en61 : EnterOk Tryz.prog 61 := EnterOk.of Tryz.func61 (by kernel_rfl) (by kernel_rfl)
theorem fo116_1 : FieldOk Tryz.prog 116 1 1 := fun w b k => by kernel_rfl
theorem fo116_0 : FieldOk Tryz.prog 116 0 0 := fun w b k => by kernel_rfl
theorem sz116 : SzOk Tryz.prog 116 2 true := ⟨fun w => by kernel_rfl, fun w => by kernel_rfl⟩
theorem al116 : ∀ S w, (A.cells S w (.agg (.pair (.eq (.int .i64 (0 : Int))) (.eq (.bool false)))) (Value.cells (.agg #[(.int .i64 (0)), (.bool false)])).toList) := fun _ _ => ⟨[_], _, rfl, ⟨rfl, rfl⟩, ⟨rfl, rfl⟩⟩
theorem en63 : EnterOk Tryz.prog 63 := EnterOk.of Tryz.func63 (by kernel_rfl) (by kernel_rfl)
theorem en106 : EnterOk Tryz.prog 106 := EnterOk.of Tryz.func106 (by kernel_rfl) (by kernel_rfl)
theorem en62 : EnterOk Tryz.prog 62 := EnterOk.of Tryz.func62 (by kernel_rfl) (by kernel_rfl)
theorem en120 : EnterOk Tryz.prog 120 := EnterOk.of Tryz.func120 (by kernel_rfl) (by kernel_rfl)
theorem en121 : EnterOk Tryz.prog 121 := EnterOk.of Tryz.func121 (by kernel_rfl) (by kernel_rfl)
theorem sl41 : SlOk Tryz.prog 41 34 1 24 := .of (z := (.slice none 0 0)) Tryz.underlying41 (by kernel_rfl) rfl rfl rfl
theorem en104 : EnterOk Tryz.prog 104 := EnterOk.of Tryz.func104 (by kernel_rfl) (by kernel_rfl)
theorem en118 : EnterOk Tryz.prog 118 := EnterOk.of Tryz.func118 (by kernel_rfl) (by kernel_rfl)
theorem en99 : EnterOk Tryz.prog 99 := EnterOk.of Tryz.func99 (by kernel_rfl) (by kernel_rfl)
theorem en73 : EnterOk Tryz.prog 73 := EnterOk.of Tryz.func73 (by kernel_rfl) (by kernel_rfl)
theorem en53 : EnterOk Tryz.prog 53 := EnterOk.of Tryz.func53 (by kernel_rfl) (by kernel_rfl)
theorem en54 : EnterOk Tryz.prog 54 := EnterOk.of Tryz.func54 (by kernel_rfl) (by kernel_rfl)
theorem en9 : EnterOk Tryz.prog 9 := EnterOk.of Tryz.func9 (by kernel_rfl) (by kernel_rfl)
theorem en10 : EnterOk Tryz.prog 10 := EnterOk.of Tryz.func10 (by kernel_rfl) (by kernel_rfl)
theorem en12 : EnterOk Tryz.prog 12 := EnterOk.of Tryz.func12 (by kernel_rfl) (by kernel_rfl)
theorem en17 : EnterOk Tryz.prog 17 := EnterOk.of Tryz.func17 (by kernel_rfl) (by kernel_rfl)
theorem en72 : EnterOk Tryz.prog 72 := EnterOk.of Tryz.func72 (by kernel_rfl) (by kernel_rfl)
theorem sl55 : SlOk Tryz.prog 55 29 1 24 := .of (z := (.slice none 0 0)) Tryz.underlying55 (by kernel_rfl) rfl rfl rfl
theorem sl57 : SlOk Tryz.prog 57 24 1 24 := .of (z := (.slice none 0 0)) Tryz.underlying57 (by kernel_rfl) rfl rfl rfl
theorem sz29 : SzOk Tryz.prog 29 1 false := ⟨fun w => by kernel_rfl, fun w => by kernel_rfl⟩
theorem en30 : EnterOk Tryz.prog 30 := EnterOk.of Tryz.func30 (by kernel_rfl) (by kernel_rfl)
abbrev Rs (t : Ty) (l : (Ty.slice t).den) : A := .rep (.slice t) l
abbrev Pv (b : Nat) : Value := .pointer (some ⟨b, 0, none⟩)
abbrev N4 : A := .agg (.pair (.eq (.slice none 0 0)) (.pair (.eq (.slice none 0 0)) (.pair (.eq (.slice none 0 0)) (.eq (.slice none 0 0)))))
abbrev Qc (q : dChange) : A := .agg (.pair (.rep (.slice tThing) q.1) (.pair (.rep (.slice tDresser) q.2.1) (.pair (Ri q.2.2.1) (Ri q.2.2.2))))
abbrev Qq (q : dChange × (List (Bool × Int)) × (List Int)) (m : A) : A := .agg (.pair (Qc q.1) (.pair (.rep (.slice (.tag 107 143)) q.2.1) (.pair (.rep (.arr 8 (.int .u8)) q.2.2) m)))
abbrev U102 := @Tryz.underlying102
abbrev U107 := @Tryz.underlying107
abbrev U111 := @Tryz.underlying111
abbrev U112 := @Tryz.underlying112
abbrev U120 := @Tryz.underlying120
abbrev U143 := @Tryz.underlying143
abbrev U148 := @Tryz.underlying148
abbrev U155 := @Tryz.underlying155
abbrev U160 := @Tryz.underlying160
abbrev U172 := @Tryz.underlying172
abbrev U186 := @Tryz.underlying186
abbrev U22 := @Tryz.underlying22
abbrev U23 := @Tryz.underlying23
abbrev U24 := @Tryz.underlying24
abbrev U26 := @Tryz.underlying26
abbrev U29 := @Tryz.underlying29
abbrev U3 := @Tryz.underlying3
abbrev U34 := @Tryz.underlying34
abbrev U4 := @Tryz.underlying4
abbrev U41 := @Tryz.underlying41
abbrev U5 := @Tryz.underlying5
abbrev U55 := @Tryz.underlying55
abbrev U57 := @Tryz.underlying57
abbrev U77 := @Tryz.underlying77
abbrev U9 := @Tryz.underlying9
abbrev U92 := @Tryz.underlying92
abbrev U97 := @Tryz.underlying97
abbrev U98 := @Tryz.underlying98
abbrev U99 := @Tryz.underlying99
theorem nfs : false = false → 1 = 1 := fun _ => rfl
end Go.Proofs.YtfhdclhbdmhnmaaGreat
