import Derived.Test.YtomnkjcklkcnhaaB3
import Derived.Test.YtomnkjcklkcnhaaB4
import Derived.Test.YtomnkjcklkcnhaaProg
namespace Go.Proofs.Ytomnkjcklkcnhaa
open K Go Go.Proofs
/-! Facts about the program's types, by their numbers. -/
theorem mixed : Try.prog.follows .mixedOrders = true := by kernel_rfl
theorem nfn {n : Nat} : true = false → n = 1 := fun h => nomatch h
@[reducible] def tBetween : Ty := .agg (.pair (.int .i64) (.int .i64))
abbrev dBetween := (Int × Int)
@[reducible] def tSeam : Ty := .agg (.pair (.int .i64) (.pair (.int .i64) (.pair (.slice tBetween) (.pair (.slice (.int .i64)) (.int .i64)))))
abbrev dSeam := (Int × (Int × ((List dBetween) × ((List Int) × Int))))
@[reducible] def tCostume : Ty := .agg (.pair (.slice (.int .i64)) (.pair (.slice tBetween) (.pair (.slice (.int .i64)) (.pair (.slice tSeam) (.slice (.int .i64))))))
abbrev dCostume := ((List Int) × ((List dBetween) × ((List Int) × ((List dSeam) × (List Int)))))
@[reducible] def tThing : Ty := .agg (.pair (.slice (.int .i64)) (.pair (.int .i64) (.pair (.int .i64) (.pair (.int .i64) (.int .i64)))))
abbrev dThing := ((List Int) × (Int × (Int × (Int × Int))))
@[reducible] def tDresser : Ty := .agg (.pair (.slice (.int .i64)) (.pair (.int .i64) (.int .i64)))
abbrev dDresser := ((List Int) × (Int × Int))
@[reducible] def tChange : Ty := .agg (.pair (.slice tThing) (.pair (.slice tDresser) (.pair (.slice (.int .i64)) (.slice (.int .i64)))))
abbrev dChange := ((List dThing) × ((List dDresser) × ((List Int) × (List Int))))
@[reducible] def tLots : Ty := .agg (.pair (.slice (.int .i64)) (.pair (.int .i64) (.int .u64)))
abbrev dLots := ((List Int) × (Int × Int))
@[reducible] def tgown : Ty := .agg (.pair tCostume (.arr 3 (.int .u8)))
abbrev dgown := (dCostume × (List Int))
@[reducible] def tquick : Ty := .agg (.pair tChange (.pair (.slice (.tag 105 106)) (.pair (.arr 8 (.int .u8)) .ign)))
@[reducible] def tunsewn : Ty := .agg (.int .i64)
@[reducible] def tStep : Ty := tBetween
abbrev dStep := dBetween
theorem pl50 : BdOk Try.prog 50 #[(0, 1), (1, 1), (2, 1)] := ⟨_, Try.underlying50, fun _ => by kernel_rfl⟩
theorem za50 : ∀ w, (zeroValue 50).run Try.prog w = .ok (.agg #[(.slice none 0 0), (.int .i64 (0)), (.int .u64 (0))]) w := fun w => by kernel_rfl
theorem alb50 : ∀ S w, (A.cells S w (.pair (.eq (.slice none 0 0)) (.pair (.eq (.int .i64 (0 : Int))) (.eq (.int .u64 (0 : Int))))) (Value.cells (.agg #[(.slice none 0 0), (.int .i64 (0)), (.int .u64 (0))])).toList) := fun _ _ => ⟨[_], _, rfl, ⟨rfl, rfl⟩, ⟨[_], _, rfl, ⟨rfl, rfl⟩, ⟨rfl, rfl⟩⟩⟩
theorem fo50_2 : FieldOk Try.prog 50 2 2 := fun w b k => by kernel_rfl
theorem sz48 : SzOk Try.prog 48 1 false := ⟨fun w => by kernel_rfl, fun w => by kernel_rfl⟩
theorem fo50_1 : FieldOk Try.prog 50 1 1 := fun w b k => by kernel_rfl
theorem sz3 : SzOk Try.prog 3 1 false := ⟨fun w => by kernel_rfl, fun w => by kernel_rfl⟩
theorem fo50_0 : FieldOk Try.prog 50 0 0 := fun w b k => by kernel_rfl
theorem sz22 : SzOk Try.prog 22 1 false := ⟨fun w => by kernel_rfl, fun w => by kernel_rfl⟩
theorem en25 : EnterOk Try.prog 25 := EnterOk.of Try.func25 (by kernel_rfl) (by kernel_rfl)
theorem en10 : EnterOk Try.prog 10 := EnterOk.of Try.func10 (by kernel_rfl) (by kernel_rfl)
theorem fo28_3 : FieldOk Try.prog 28 3 3 := fun w b k => by kernel_rfl
theorem sz26 : SzOk Try.prog 26 1 false := ⟨fun w => by kernel_rfl, fun w => by kernel_rfl⟩
theorem sz56 : SzOk Try.prog 56 5 true := ⟨fun w => by kernel_rfl, fun w => by kernel_rfl⟩
theorem fo56_0 : FieldOk Try.prog 56 0 0 := fun w b k => by kernel_rfl
theorem fo56_1 : FieldOk Try.prog 56 1 1 := fun w b k => by kernel_rfl
theorem en11 : EnterOk Try.prog 11 := EnterOk.of Try.func11 (by kernel_rfl) (by kernel_rfl)
theorem sl22 : SlOk Try.prog 22 3 1 8 := .of (z := (.int .i64 (0))) Try.underlying22 (by kernel_rfl) rfl rfl rfl
theorem za56 : ∀ w, (zeroValue 56).run Try.prog w = .ok (.agg #[(.int .i64 (0)), (.int .i64 (0)), (.slice none 0 0), (.slice none 0 0), (.int .i64 (0))]) w := fun w => by kernel_rfl
theorem al56 : ∀ S w, (A.cells S w (.agg (.pair (.eq (.int .i64 (0 : Int))) (.pair (.eq (.int .i64 (0 : Int))) (.pair (.eq (.slice none 0 0)) (.pair (.eq (.slice none 0 0)) (.eq (.int .i64 (0 : Int)))))))) (Value.cells (.agg #[(.int .i64 (0)), (.int .i64 (0)), (.slice none 0 0), (.slice none 0 0), (.int .i64 (0))])).toList) := fun _ _ => ⟨[_], _, rfl, ⟨rfl, rfl⟩, ⟨[_], _, rfl, ⟨rfl, rfl⟩, ⟨[_], _, rfl, ⟨rfl, rfl⟩, ⟨[_], _, rfl, ⟨rfl, rfl⟩, ⟨rfl, rfl⟩⟩⟩⟩⟩
theorem en14 : EnterOk Try.prog 14 := EnterOk.of Try.func14 (by kernel_rfl) (by kernel_rfl)
theorem pl87 : BdOk Try.prog 87 #[(0, 1), (1, 1)] := ⟨_, Try.underlying87, fun _ => by kernel_rfl⟩
theorem za87 : ∀ w, (zeroValue 87).run Try.prog w = .ok (.agg #[(.int .i64 (0)), (.int .i64 (0))]) w := fun w => by kernel_rfl
theorem alb87 : ∀ S w, (A.cells S w (.pair (.eq (.int .i64 (0 : Int))) (.eq (.int .i64 (0 : Int)))) (Value.cells (.agg #[(.int .i64 (0)), (.int .i64 (0))])).toList) := fun _ _ => ⟨[_], _, rfl, ⟨rfl, rfl⟩, ⟨rfl, rfl⟩⟩
theorem sl54 : SlOk Try.prog 54 87 2 16 := .of (z := (.agg #[(.int .i64 (0)), (.int .i64 (0))])) Try.underlying54 (by kernel_rfl) rfl rfl rfl
theorem pl56 : BdOk Try.prog 56 #[(0, 1), (1, 1), (2, 1), (3, 1), (4, 1)] := ⟨_, Try.underlying56, fun _ => by kernel_rfl⟩
theorem alb56 : ∀ S w, (A.cells S w (.pair (.eq (.int .i64 (0 : Int))) (.pair (.eq (.int .i64 (0 : Int))) (.pair (.eq (.slice none 0 0)) (.pair (.eq (.slice none 0 0)) (.eq (.int .i64 (0 : Int))))))) (Value.cells (.agg #[(.int .i64 (0)), (.int .i64 (0)), (.slice none 0 0), (.slice none 0 0), (.int .i64 (0))])).toList) := fun _ _ => ⟨[_], _, rfl, ⟨rfl, rfl⟩, ⟨[_], _, rfl, ⟨rfl, rfl⟩, ⟨[_], _, rfl, ⟨rfl, rfl⟩, ⟨[_], _, rfl, ⟨rfl, rfl⟩, ⟨rfl, rfl⟩⟩⟩⟩⟩
theorem en16 : EnterOk Try.prog 16 := EnterOk.of Try.func16 (by kernel_rfl) (by kernel_rfl)
theorem fo56_2 : FieldOk Try.prog 56 2 2 := fun w b k => by kernel_rfl
theorem sz54 : SzOk Try.prog 54 1 false := ⟨fun w => by kernel_rfl, fun w => by kernel_rfl⟩
theorem sz87 : SzOk Try.prog 87 2 true := ⟨fun w => by kernel_rfl, fun w => by kernel_rfl⟩
theorem fo87_0 : FieldOk Try.prog 87 0 0 := fun w b k => by kernel_rfl
theorem fo56_3 : FieldOk Try.prog 56 3 3 := fun w b k => by kernel_rfl
theorem en48 : EnterOk Try.prog 48 := EnterOk.of Try.func48 (by kernel_rfl) (by kernel_rfl)
theorem sl25 : SlOk Try.prog 25 52 2 16 := .of (z := (.agg #[(.int .i64 (0)), (.int .i64 (0))])) Try.underlying25 (by kernel_rfl) rfl rfl rfl
theorem za28 : ∀ w, (zeroValue 28).run Try.prog w = .ok (.agg #[(.slice none 0 0), (.slice none 0 0), (.slice none 0 0), (.slice none 0 0), (.slice none 0 0)]) w := fun w => by kernel_rfl
theorem al28 : ∀ S w, (A.cells S w (.agg (.pair (.eq (.slice none 0 0)) (.pair (.eq (.slice none 0 0)) (.pair (.eq (.slice none 0 0)) (.pair (.eq (.slice none 0 0)) (.eq (.slice none 0 0))))))) (Value.cells (.agg #[(.slice none 0 0), (.slice none 0 0), (.slice none 0 0), (.slice none 0 0), (.slice none 0 0)])).toList) := fun _ _ => ⟨[_], _, rfl, ⟨rfl, rfl⟩, ⟨[_], _, rfl, ⟨rfl, rfl⟩, ⟨[_], _, rfl, ⟨rfl, rfl⟩, ⟨[_], _, rfl, ⟨rfl, rfl⟩, ⟨rfl, rfl⟩⟩⟩⟩⟩
theorem fo28_0 : FieldOk Try.prog 28 0 0 := fun w b k => by kernel_rfl
theorem fo28_1 : FieldOk Try.prog 28 1 1 := fun w b k => by kernel_rfl
theorem sz25 : SzOk Try.prog 25 1 false := ⟨fun w => by kernel_rfl, fun w => by kernel_rfl⟩
theorem en49 : EnterOk Try.prog 49 := EnterOk.of Try.func49 (by kernel_rfl) (by kernel_rfl)
theorem fo28_2 : FieldOk Try.prog 28 2 2 := fun w b k => by kernel_rfl
theorem fo28_4 : FieldOk Try.prog 28 4 4 := fun w b k => by kernel_rfl
theorem pl28 : BdOk Try.prog 28 #[(0, 1), (1, 1), (2, 1), (3, 1), (4, 1)] := ⟨_, Try.underlying28, fun _ => by kernel_rfl⟩
theorem alb28 : ∀ S w, (A.cells S w (.pair (.eq (.slice none 0 0)) (.pair (.eq (.slice none 0 0)) (.pair (.eq (.slice none 0 0)) (.pair (.eq (.slice none 0 0)) (.eq (.slice none 0 0)))))) (Value.cells (.agg #[(.slice none 0 0), (.slice none 0 0), (.slice none 0 0), (.slice none 0 0), (.slice none 0 0)])).toList) := fun _ _ => ⟨[_], _, rfl, ⟨rfl, rfl⟩, ⟨[_], _, rfl, ⟨rfl, rfl⟩, ⟨[_], _, rfl, ⟨rfl, rfl⟩, ⟨[_], _, rfl, ⟨rfl, rfl⟩, ⟨rfl, rfl⟩⟩⟩⟩⟩
theorem sz28 : SzOk Try.prog 28 5 true := ⟨fun w => by kernel_rfl, fun w => by kernel_rfl⟩
theorem en32 : EnterOk Try.prog 32 := EnterOk.of Try.func32 (by kernel_rfl) (by kernel_rfl)
theorem sl26 : SlOk Try.prog 26 56 5 72 := .of (z := (.agg #[(.int .i64 (0)), (.int .i64 (0)), (.slice none 0 0), (.slice none 0 0), (.int .i64 (0))])) Try.underlying26 (by kernel_rfl) rfl rfl rfl
theorem en31 : EnterOk Try.prog 31 := EnterOk.of Try.func31 (by kernel_rfl) (by kernel_rfl)
theorem pl52 : BdOk Try.prog 52 #[(0, 1), (1, 1)] := ⟨_, Try.underlying52, fun _ => by kernel_rfl⟩
theorem za52 : ∀ w, (zeroValue 52).run Try.prog w = .ok (.agg #[(.int .i64 (0)), (.int .i64 (0))]) w := fun w => by kernel_rfl
theorem alb52 : ∀ S w, (A.cells S w (.pair (.eq (.int .i64 (0 : Int))) (.eq (.int .i64 (0 : Int)))) (Value.cells (.agg #[(.int .i64 (0)), (.int .i64 (0))])).toList) := fun _ _ => ⟨[_], _, rfl, ⟨rfl, rfl⟩, ⟨rfl, rfl⟩⟩
theorem en15 : EnterOk Try.prog 15 := EnterOk.of Try.func15 (by kernel_rfl) (by kernel_rfl)
theorem en17 : EnterOk Try.prog 17 := EnterOk.of Try.func17 (by kernel_rfl) (by kernel_rfl)
theorem en6 : EnterOk Try.prog 6 := EnterOk.of Try.func6 (by kernel_rfl) (by kernel_rfl)
theorem en65 : EnterOk Try.prog 65 := EnterOk.of Try.func65 (by kernel_rfl) (by kernel_rfl)
theorem fo52_0 : FieldOk Try.prog 52 0 0 := fun w b k => by kernel_rfl
theorem fo52_1 : FieldOk Try.prog 52 1 1 := fun w b k => by kernel_rfl
theorem en62 : EnterOk Try.prog 62 := EnterOk.of Try.func62 (by kernel_rfl) (by kernel_rfl)
theorem sz52 : SzOk Try.prog 52 2 true := ⟨fun w => by kernel_rfl, fun w => by kernel_rfl⟩
theorem al52 : ∀ S w, (A.cells S w (.agg (.pair (.eq (.int .i64 (0 : Int))) (.eq (.int .i64 (0 : Int))))) (Value.cells (.agg #[(.int .i64 (0)), (.int .i64 (0))])).toList) := fun _ _ => ⟨[_], _, rfl, ⟨rfl, rfl⟩, ⟨rfl, rfl⟩⟩
theorem en67 : EnterOk Try.prog 67 := EnterOk.of Try.func67 (by kernel_rfl) (by kernel_rfl)
theorem al87 : ∀ S w, (A.cells S w (.agg (.pair (.eq (.int .i64 (0 : Int))) (.eq (.int .i64 (0 : Int))))) (Value.cells (.agg #[(.int .i64 (0)), (.int .i64 (0))])).toList) := fun _ _ => ⟨[_], _, rfl, ⟨rfl, rfl⟩, ⟨rfl, rfl⟩⟩
theorem fo87_1 : FieldOk Try.prog 87 1 1 := fun w b k => by kernel_rfl
theorem fo56_4 : FieldOk Try.prog 56 4 4 := fun w b k => by kernel_rfl
theorem za63 : ∀ w, (zeroValue 63).run Try.prog w = .ok (.agg #[(.slice none 0 0), (.slice none 0 0), (.slice none 0 0), (.slice none 0 0), (.slice none 0 0), (.int .u8 (0)), (.int .u8 (0)), (.int .u8 (0))]) w := fun w => by kernel_rfl
theorem al63 : ∀ S w, (A.cells S w (.agg (.pair (.agg (.pair (.eq (.slice none 0 0)) (.pair (.eq (.slice none 0 0)) (.pair (.eq (.slice none 0 0)) (.pair (.eq (.slice none 0 0)) (.eq (.slice none 0 0))))))) (.rep (.arr 3 (.int .u8)) [(0 : Int), (0 : Int), (0 : Int)]))) (Value.cells (.agg #[(.slice none 0 0), (.slice none 0 0), (.slice none 0 0), (.slice none 0 0), (.slice none 0 0), (.int .u8 (0)), (.int .u8 (0)), (.int .u8 (0))])).toList) := fun _ _ => ⟨[_, _, _, _, _], _, rfl, ⟨[_], _, rfl, ⟨rfl, rfl⟩, ⟨[_], _, rfl, ⟨rfl, rfl⟩, ⟨[_], _, rfl, ⟨rfl, rfl⟩, ⟨[_], _, rfl, ⟨rfl, rfl⟩, ⟨rfl, rfl⟩⟩⟩⟩⟩, ⟨rfl, ⟨[_], _, rfl, rfl, ⟨[_], _, rfl, rfl, ⟨[_], _, rfl, rfl, rfl⟩⟩⟩⟩⟩
theorem pl63 : BdOk Try.prog 63 #[(0, 5), (5, 3)] := ⟨_, Try.underlying63, fun _ => by kernel_rfl⟩
theorem alb63 : ∀ S w, (A.cells S w (.pair (.agg (.pair (.eq (.slice none 0 0)) (.pair (.eq (.slice none 0 0)) (.pair (.eq (.slice none 0 0)) (.pair (.eq (.slice none 0 0)) (.eq (.slice none 0 0))))))) (.rep (.arr 3 (.int .u8)) [(0 : Int), (0 : Int), (0 : Int)])) (Value.cells (.agg #[(.slice none 0 0), (.slice none 0 0), (.slice none 0 0), (.slice none 0 0), (.slice none 0 0), (.int .u8 (0)), (.int .u8 (0)), (.int .u8 (0))])).toList) := fun _ _ => ⟨[_, _, _, _, _], _, rfl, ⟨[_], _, rfl, ⟨rfl, rfl⟩, ⟨[_], _, rfl, ⟨rfl, rfl⟩, ⟨[_], _, rfl, ⟨rfl, rfl⟩, ⟨[_], _, rfl, ⟨rfl, rfl⟩, ⟨rfl, rfl⟩⟩⟩⟩⟩, ⟨rfl, ⟨[_], _, rfl, rfl, ⟨[_], _, rfl, rfl, ⟨[_], _, rfl, rfl, rfl⟩⟩⟩⟩⟩
theorem sz63 : SzOk Try.prog 63 8 true := ⟨fun w => by kernel_rfl, fun w => by kernel_rfl⟩
theorem fo63_0 : FieldOk Try.prog 63 0 0 := fun w b k => by kernel_rfl
theorem fo63_1 : FieldOk Try.prog 63 1 5 := fun w b k => by kernel_rfl
theorem sz60 : SzOk Try.prog 60 1 false := ⟨fun w => by kernel_rfl, fun w => by kernel_rfl⟩
theorem en21 : EnterOk Try.prog 21 := EnterOk.of Try.func21 (by kernel_rfl) (by kernel_rfl)
theorem en20 : EnterOk Try.prog 20 := EnterOk.of Try.func20 (by kernel_rfl) (by kernel_rfl)
theorem en61 : EnterOk Try.prog 61 := EnterOk.of Try.func61 (by kernel_rfl) (by kernel_rfl)
theorem en63 : EnterOk Try.prog 63 := EnterOk.of Try.func63 (by kernel_rfl) (by kernel_rfl)
theorem en64 : EnterOk Try.prog 64 := EnterOk.of Try.func64 (by kernel_rfl) (by kernel_rfl)
theorem en51 : EnterOk Try.prog 51 := EnterOk.of Try.func51 (by kernel_rfl) (by kernel_rfl)
theorem en50 : EnterOk Try.prog 50 := EnterOk.of Try.func50 (by kernel_rfl) (by kernel_rfl)
theorem en52 : EnterOk Try.prog 52 := EnterOk.of Try.func52 (by kernel_rfl) (by kernel_rfl)
theorem en19 : EnterOk Try.prog 19 := EnterOk.of Try.func19 (by kernel_rfl) (by kernel_rfl)
theorem pl127 : BdOk Try.prog 127 #[(0, 1)] := ⟨_, Try.underlying127, fun _ => by kernel_rfl⟩
theorem za127 : ∀ w, (zeroValue 127).run Try.prog w = .ok (.agg #[(.int .i64 (0))]) w := fun w => by kernel_rfl
theorem alb127 : ∀ S w, (A.cells S w (.eq (.int .i64 (0 : Int))) (Value.cells (.agg #[(.int .i64 (0))])).toList) := fun _ _ => ⟨rfl, rfl⟩
theorem en33 : EnterOk Try.prog 33 := EnterOk.of Try.func33 (by kernel_rfl) (by kernel_rfl)
theorem en34 : EnterOk Try.prog 34 := EnterOk.of Try.func34 (by kernel_rfl) (by kernel_rfl)
theorem en18 : EnterOk Try.prog 18 := EnterOk.of Try.func18 (by kernel_rfl) (by kernel_rfl)
theorem en56 : EnterOk Try.prog 56 := EnterOk.of Try.func56 (by kernel_rfl) (by kernel_rfl)
theorem fo43_0 : FieldOk Try.prog 43 0 0 := fun w b k => by kernel_rfl
theorem sz40 : SzOk Try.prog 40 1 false := ⟨fun w => by kernel_rfl, fun w => by kernel_rfl⟩
theorem en54 : EnterOk Try.prog 54 := EnterOk.of Try.func54 (by kernel_rfl) (by kernel_rfl)
theorem sz84 : SzOk Try.prog 84 5 true := ⟨fun w => by kernel_rfl, fun w => by kernel_rfl⟩
theorem za84 : ∀ w, (zeroValue 84).run Try.prog w = .ok (.agg #[(.slice none 0 0), (.int .i64 (0)), (.int .i64 (0)), (.int .i64 (0)), (.int .i64 (0))]) w := fun w => by kernel_rfl
theorem al84 : ∀ S w, (A.cells S w (.agg (.pair (.eq (.slice none 0 0)) (.pair (.eq (.int .i64 (0 : Int))) (.pair (.eq (.int .i64 (0 : Int))) (.pair (.eq (.int .i64 (0 : Int))) (.eq (.int .i64 (0 : Int)))))))) (Value.cells (.agg #[(.slice none 0 0), (.int .i64 (0)), (.int .i64 (0)), (.int .i64 (0)), (.int .i64 (0))])).toList) := fun _ _ => ⟨[_], _, rfl, ⟨rfl, rfl⟩, ⟨[_], _, rfl, ⟨rfl, rfl⟩, ⟨[_], _, rfl, ⟨rfl, rfl⟩, ⟨[_], _, rfl, ⟨rfl, rfl⟩, ⟨rfl, rfl⟩⟩⟩⟩⟩
theorem fo84_0 : FieldOk Try.prog 84 0 0 := fun w b k => by kernel_rfl
theorem en55 : EnterOk Try.prog 55 := EnterOk.of Try.func55 (by kernel_rfl) (by kernel_rfl)
theorem fo84_1 : FieldOk Try.prog 84 1 1 := fun w b k => by kernel_rfl
theorem fo84_2 : FieldOk Try.prog 84 2 2 := fun w b k => by kernel_rfl
theorem fo84_3 : FieldOk Try.prog 84 3 3 := fun w b k => by kernel_rfl
theorem fo84_4 : FieldOk Try.prog 84 4 4 := fun w b k => by kernel_rfl
theorem za141 : ∀ w, (zeroValue 141).run Try.prog w = .ok (.agg #[(.int .u8 (0)), (.int .u8 (0)), (.int .u8 (0)), (.int .u8 (0))]) w := fun w => by kernel_rfl
theorem al141 : ∀ S w, (A.cells S w (.rep (.arr 4 (.int .u8)) [(0 : Int), (0 : Int), (0 : Int), (0 : Int)]) (Value.cells (.agg #[(.int .u8 (0)), (.int .u8 (0)), (.int .u8 (0)), (.int .u8 (0))])).toList) := fun _ _ => ⟨rfl, ⟨[_], _, rfl, rfl, ⟨[_], _, rfl, rfl, ⟨[_], _, rfl, rfl, ⟨[_], _, rfl, rfl, rfl⟩⟩⟩⟩⟩
theorem sz99 : SzOk Try.prog 99 1 false := ⟨fun w => by kernel_rfl, fun w => by kernel_rfl⟩
theorem en37 : EnterOk Try.prog 37 := EnterOk.of Try.func37 (by kernel_rfl) (by kernel_rfl)
theorem en43 : EnterOk Try.prog 43 := EnterOk.of Try.func43 (by kernel_rfl) (by kernel_rfl)
theorem sz43 : SzOk Try.prog 43 4 true := ⟨fun w => by kernel_rfl, fun w => by kernel_rfl⟩
theorem en53 : EnterOk Try.prog 53 := EnterOk.of Try.func53 (by kernel_rfl) (by kernel_rfl)
theorem fo43_1 : FieldOk Try.prog 43 1 1 := fun w b k => by kernel_rfl
theorem sz41 : SzOk Try.prog 41 1 false := ⟨fun w => by kernel_rfl, fun w => by kernel_rfl⟩
theorem sz82 : SzOk Try.prog 82 3 true := ⟨fun w => by kernel_rfl, fun w => by kernel_rfl⟩
theorem za82 : ∀ w, (zeroValue 82).run Try.prog w = .ok (.agg #[(.slice none 0 0), (.int .i64 (0)), (.int .i64 (0))]) w := fun w => by kernel_rfl
theorem al82 : ∀ S w, (A.cells S w (.agg (.pair (.eq (.slice none 0 0)) (.pair (.eq (.int .i64 (0 : Int))) (.eq (.int .i64 (0 : Int)))))) (Value.cells (.agg #[(.slice none 0 0), (.int .i64 (0)), (.int .i64 (0))])).toList) := fun _ _ => ⟨[_], _, rfl, ⟨rfl, rfl⟩, ⟨[_], _, rfl, ⟨rfl, rfl⟩, ⟨rfl, rfl⟩⟩⟩
theorem fo82_0 : FieldOk Try.prog 82 0 0 := fun w b k => by kernel_rfl
theorem fo82_1 : FieldOk Try.prog 82 1 1 := fun w b k => by kernel_rfl
theorem fo82_2 : FieldOk Try.prog 82 2 2 := fun w b k => by kernel_rfl
theorem fo43_2 : FieldOk Try.prog 43 2 2 := fun w b k => by kernel_rfl
theorem fo43_3 : FieldOk Try.prog 43 3 3 := fun w b k => by kernel_rfl
theorem sz72 : SzOk Try.prog 72 1 false := ⟨fun w => by kernel_rfl, fun w => by kernel_rfl⟩
theorem fo102_2 : FieldOk Try.prog 102 2 5 := fun w b k => by kernel_rfl
theorem fo102_1 : FieldOk Try.prog 102 1 4 := fun w b k => by kernel_rfl
theorem sz98 : SzOk Try.prog 98 1 false := ⟨fun w => by kernel_rfl, fun w => by kernel_rfl⟩
theorem sz111 : SzOk Try.prog 111 1 false := ⟨fun w => by kernel_rfl, fun w => by kernel_rfl⟩
theorem ta105 : TaOk Try.prog 105 := ⟨Try.underlying105, fun w => by kernel_rfl⟩
theorem mt105_thing : MthOk Try.prog 105 "galloon/change.thing" 86 := fun n w => by kernel_rfl
theorem mt106_thing : MthOk Try.prog 106 "galloon/change.thing" 87 := fun n w => by kernel_rfl
theorem ta106 : TaOk Try.prog 106 := ⟨Try.underlying106, fun w => by kernel_rfl⟩
theorem fo102_0 : FieldOk Try.prog 102 0 0 := fun w b k => by kernel_rfl
theorem en58 : EnterOk Try.prog 58 := EnterOk.of Try.func58 (by kernel_rfl) (by kernel_rfl)
theorem en57 : EnterOk Try.prog 57 := EnterOk.of Try.func57 (by kernel_rfl) (by kernel_rfl)
theorem en35 : EnterOk Try.prog 35 := EnterOk.of Try.func35 (by kernel_rfl) (by kernel_rfl)
theorem pl102 : BdOk Try.prog 102 #[(0, 4), (4, 1), (5, 8), (13, 1)] := ⟨_, Try.underlying102, fun _ => by kernel_rfl⟩
theorem za102 : ∀ w, (zeroValue 102).run Try.prog w = .ok (.agg #[(.slice none 0 0), (.slice none 0 0), (.slice none 0 0), (.slice none 0 0), (.slice none 0 0), (.int .u8 (0)), (.int .u8 (0)), (.int .u8 (0)), (.int .u8 (0)), (.int .u8 (0)), (.int .u8 (0)), (.int .u8 (0)), (.int .u8 (0)), (.map none)]) w := fun w => by kernel_rfl
theorem alb102 : ∀ S w, (A.cells S w (.pair (.agg (.pair (.eq (.slice none 0 0)) (.pair (.eq (.slice none 0 0)) (.pair (.eq (.slice none 0 0)) (.eq (.slice none 0 0)))))) (.pair (.eq (.slice none 0 0)) (.pair (.rep (.arr 8 (.int .u8)) [(0 : Int), (0 : Int), (0 : Int), (0 : Int), (0 : Int), (0 : Int), (0 : Int), (0 : Int)]) (.eq (.map none))))) (Value.cells (.agg #[(.slice none 0 0), (.slice none 0 0), (.slice none 0 0), (.slice none 0 0), (.slice none 0 0), (.int .u8 (0)), (.int .u8 (0)), (.int .u8 (0)), (.int .u8 (0)), (.int .u8 (0)), (.int .u8 (0)), (.int .u8 (0)), (.int .u8 (0)), (.map none)])).toList) := fun _ _ => ⟨[_, _, _, _], _, rfl, ⟨[_], _, rfl, ⟨rfl, rfl⟩, ⟨[_], _, rfl, ⟨rfl, rfl⟩, ⟨[_], _, rfl, ⟨rfl, rfl⟩, ⟨rfl, rfl⟩⟩⟩⟩, ⟨[_], _, rfl, ⟨rfl, rfl⟩, ⟨[_, _, _, _, _, _, _, _], _, rfl, ⟨rfl, ⟨[_], _, rfl, rfl, ⟨[_], _, rfl, rfl, ⟨[_], _, rfl, rfl, ⟨[_], _, rfl, rfl, ⟨[_], _, rfl, rfl, ⟨[_], _, rfl, rfl, ⟨[_], _, rfl, rfl, ⟨[_], _, rfl, rfl, rfl⟩⟩⟩⟩⟩⟩⟩⟩⟩, ⟨rfl, rfl⟩⟩⟩⟩
theorem en36 : EnterOk Try.prog 36 := EnterOk.of Try.func36 (by kernel_rfl) (by kernel_rfl)
theorem en38 : EnterOk Try.prog 38 := EnterOk.of Try.func38 (by kernel_rfl) (by kernel_rfl)
theorem sl98 : SlOk Try.prog 98 111 1 16 := .of (z := .nilIface) Try.underlying98 (by kernel_rfl) rfl rfl rfl
theorem en39 : EnterOk Try.prog 39 := EnterOk.of Try.func39 (by kernel_rfl) (by kernel_rfl)
theorem sl37 : SlOk Try.prog 37 46 2 16 := .of (z := (.agg #[(.int .i64 (0)), (.int .i64 (0))])) Try.underlying37 (by kernel_rfl) rfl rfl rfl
theorem en66 : EnterOk Try.prog 66 := EnterOk.of Try.func66 (by kernel_rfl) (by kernel_rfl)
theorem en59 : EnterOk Try.prog 59 := EnterOk.of Try.func59 (by kernel_rfl) (by kernel_rfl)
theorem sz37 : SzOk Try.prog 37 1 false := ⟨fun w => by kernel_rfl, fun w => by kernel_rfl⟩
theorem sz107 : SzOk Try.prog 107 1 false := ⟨fun w => by kernel_rfl, fun w => by kernel_rfl⟩
theorem en42 : EnterOk Try.prog 42 := EnterOk.of Try.func42 (by kernel_rfl) (by kernel_rfl)
theorem en44 : EnterOk Try.prog 44 := EnterOk.of Try.func44 (by kernel_rfl) (by kernel_rfl)
theorem pl46 : BdOk Try.prog 46 #[(0, 1), (1, 1)] := ⟨_, Try.underlying46, fun _ => by kernel_rfl⟩
theorem za46 : ∀ w, (zeroValue 46).run Try.prog w = .ok (.agg #[(.int .i64 (0)), (.int .i64 (0))]) w := fun w => by kernel_rfl
theorem alb46 : ∀ S w, (A.cells S w (.pair (.eq (.int .i64 (0 : Int))) (.eq (.int .i64 (0 : Int)))) (Value.cells (.agg #[(.int .i64 (0)), (.int .i64 (0))])).toList) := fun _ _ => ⟨[_], _, rfl, ⟨rfl, rfl⟩, ⟨rfl, rfl⟩⟩
theorem sz108 : SzOk Try.prog 108 1 false := ⟨fun w => by kernel_rfl, fun w => by kernel_rfl⟩
theorem en41 : EnterOk Try.prog 41 := EnterOk.of Try.func41 (by kernel_rfl) (by kernel_rfl)
theorem sz46 : SzOk Try.prog 46 2 true := ⟨fun w => by kernel_rfl, fun w => by kernel_rfl⟩
theorem za37 : ∀ w, (zeroValue 37).run Try.prog w = .ok (.slice none 0 0) w := fun w => by kernel_rfl
theorem al37 : ∀ S w, (A.cells S w (.eq (.slice none 0 0)) (Value.cells (.slice none 0 0)).toList) := fun _ _ => ⟨rfl, rfl⟩
theorem za108 : ∀ w, (zeroValue 108).run Try.prog w = .ok .nilFunc w := fun w => by kernel_rfl
theorem al108 : ∀ S w, (A.cells S w (.eq .nilFunc) (Value.cells .nilFunc).toList) := fun _ _ => ⟨rfl, rfl⟩
theorem za114 : ∀ w, (zeroValue 114).run Try.prog w = .ok (.agg #[(.int .i64 (0)), (.int .i64 (0)), (.int .i64 (0)), (.int .i64 (0)), (.int .i64 (0)), (.int .i64 (0)), (.int .i64 (0)), (.int .i64 (0))]) w := fun w => by kernel_rfl
theorem al114 : ∀ S w, (A.cells S w (.rep (.arr 4 tBetween) [((0 : Int), (0 : Int)), ((0 : Int), (0 : Int)), ((0 : Int), (0 : Int)), ((0 : Int), (0 : Int))]) (Value.cells (.agg #[(.int .i64 (0)), (.int .i64 (0)), (.int .i64 (0)), (.int .i64 (0)), (.int .i64 (0)), (.int .i64 (0)), (.int .i64 (0)), (.int .i64 (0))])).toList) := fun _ _ => ⟨rfl, ⟨[_, _], _, rfl, ⟨[_], _, rfl, rfl, rfl⟩, ⟨[_, _], _, rfl, ⟨[_], _, rfl, rfl, rfl⟩, ⟨[_, _], _, rfl, ⟨[_], _, rfl, rfl, rfl⟩, ⟨[_, _], _, rfl, ⟨[_], _, rfl, rfl, rfl⟩, rfl⟩⟩⟩⟩⟩
theorem sz114 : SzOk Try.prog 114 8 true := ⟨fun w => by kernel_rfl, fun w => by kernel_rfl⟩
theorem za117 : ∀ w, (zeroValue 117).run Try.prog w = .ok (.agg #[(.int .i64 (0)), (.int .i64 (0)), (.int .i64 (0)), (.int .i64 (0))]) w := fun w => by kernel_rfl
theorem al117 : ∀ S w, (A.cells S w (.rep (.arr 4 (.int .i64)) [(0 : Int), (0 : Int), (0 : Int), (0 : Int)]) (Value.cells (.agg #[(.int .i64 (0)), (.int .i64 (0)), (.int .i64 (0)), (.int .i64 (0))])).toList) := fun _ _ => ⟨rfl, ⟨[_], _, rfl, rfl, ⟨[_], _, rfl, rfl, ⟨[_], _, rfl, rfl, ⟨[_], _, rfl, rfl, rfl⟩⟩⟩⟩⟩
theorem za135 : ∀ w, (zeroValue 135).run Try.prog w = .ok (.agg #[(.int .i64 (0)), (.int .i64 (0)), (.int .i64 (0))]) w := fun w => by kernel_rfl
theorem al135 : ∀ S w, (A.cells S w (.rep (.arr 3 (.int .i64)) [(0 : Int), (0 : Int), (0 : Int)]) (Value.cells (.agg #[(.int .i64 (0)), (.int .i64 (0)), (.int .i64 (0))])).toList) := fun _ _ => ⟨rfl, ⟨[_], _, rfl, rfl, ⟨[_], _, rfl, rfl, ⟨[_], _, rfl, rfl, rfl⟩⟩⟩⟩
theorem al46 : ∀ S w, (A.cells S w (.agg (.pair (.eq (.int .i64 (0 : Int))) (.eq (.int .i64 (0 : Int))))) (Value.cells (.agg #[(.int .i64 (0)), (.int .i64 (0))])).toList) := fun _ _ => ⟨[_], _, rfl, ⟨rfl, rfl⟩, ⟨rfl, rfl⟩⟩
theorem fo46_1 : FieldOk Try.prog 46 1 1 := fun w b k => by kernel_rfl
theorem fo46_0 : FieldOk Try.prog 46 0 0 := fun w b k => by kernel_rfl
theorem en60 : EnterOk Try.prog 60 := EnterOk.of Try.func60 (by kernel_rfl) (by kernel_rfl)
theorem sz117 : SzOk Try.prog 117 4 true := ⟨fun w => by kernel_rfl, fun w => by kernel_rfl⟩
theorem en45 : EnterOk Try.prog 45 := EnterOk.of Try.func45 (by kernel_rfl) (by kernel_rfl)
theorem zvLine : ∀ w, (zeroValue 3).run Try.prog w = .ok (.int .i64 0) w := fun w => by kernel_rfl
theorem fo102_3 : FieldOk Try.prog 102 3 13 := fun w b k => by kernel_rfl
theorem sz97 : SzOk Try.prog 97 1 false := ⟨fun w => by kernel_rfl, fun w => by kernel_rfl⟩
theorem en46 : EnterOk Try.prog 46 := EnterOk.of Try.func46 (by kernel_rfl) (by kernel_rfl)
theorem en47 : EnterOk Try.prog 47 := EnterOk.of Try.func47 (by kernel_rfl) (by kernel_rfl)
theorem za3 : ∀ w, (zeroValue 3).run Try.prog w = .ok (.int .i64 (0)) w := fun w => by kernel_rfl
theorem al3 : ∀ S w, (A.cells S w (.eq (.int .i64 (0 : Int))) (Value.cells (.int .i64 (0))).toList) := fun _ _ => ⟨rfl, rfl⟩
theorem za4 : ∀ w, (zeroValue 4).run Try.prog w = .ok (.bool false) w := fun w => by kernel_rfl
theorem al4 : ∀ S w, (A.cells S w (.eq (.bool false)) (Value.cells (.bool false)).toList) := fun _ _ => ⟨rfl, rfl⟩
theorem sz4 : SzOk Try.prog 4 1 false := ⟨fun w => by kernel_rfl, fun w => by kernel_rfl⟩
theorem sz80 : SzOk Try.prog 80 1 false := ⟨fun w => by kernel_rfl, fun w => by kernel_rfl⟩
theorem en29 : EnterOk Try.prog 29 := EnterOk.of Try.func29 (by kernel_rfl) (by kernel_rfl)
theorem en40 : EnterOk Try.prog 40 := EnterOk.of Try.func40 (by kernel_rfl) (by kernel_rfl)
theorem en26 : EnterOk Try.prog 26 := EnterOk.of Try.func26 (by kernel_rfl) (by kernel_rfl)
theorem en28 : EnterOk Try.prog 28 := EnterOk.of Try.func28 (by kernel_rfl) (by kernel_rfl)
theorem en27 : EnterOk Try.prog 27 := EnterOk.of Try.func27 (by kernel_rfl) (by kernel_rfl)
theorem za43 : ∀ w, (zeroValue 43).run Try.prog w = .ok (.agg #[(.slice none 0 0), (.slice none 0 0), (.slice none 0 0), (.slice none 0 0)]) w := fun w => by kernel_rfl
theorem al43 : ∀ S w, (A.cells S w (.agg (.pair (.eq (.slice none 0 0)) (.pair (.eq (.slice none 0 0)) (.pair (.eq (.slice none 0 0)) (.eq (.slice none 0 0)))))) (Value.cells (.agg #[(.slice none 0 0), (.slice none 0 0), (.slice none 0 0), (.slice none 0 0)])).toList) := fun _ _ => ⟨[_], _, rfl, ⟨rfl, rfl⟩, ⟨[_], _, rfl, ⟨rfl, rfl⟩, ⟨[_], _, rfl, ⟨rfl, rfl⟩, ⟨rfl, rfl⟩⟩⟩⟩
theorem pl82 : BdOk Try.prog 82 #[(0, 1), (1, 1), (2, 1)] := ⟨_, Try.underlying82, fun _ => by kernel_rfl⟩
theorem alb82 : ∀ S w, (A.cells S w (.pair (.eq (.slice none 0 0)) (.pair (.eq (.int .i64 (0 : Int))) (.eq (.int .i64 (0 : Int))))) (Value.cells (.agg #[(.slice none 0 0), (.int .i64 (0)), (.int .i64 (0))])).toList) := fun _ _ => ⟨[_], _, rfl, ⟨rfl, rfl⟩, ⟨[_], _, rfl, ⟨rfl, rfl⟩, ⟨rfl, rfl⟩⟩⟩
theorem sl41 : SlOk Try.prog 41 82 3 40 := .of (z := (.agg #[(.slice none 0 0), (.int .i64 (0)), (.int .i64 (0))])) Try.underlying41 (by kernel_rfl) rfl rfl rfl
theorem pl43 : BdOk Try.prog 43 #[(0, 1), (1, 1), (2, 1), (3, 1)] := ⟨_, Try.underlying43, fun _ => by kernel_rfl⟩
theorem alb43 : ∀ S w, (A.cells S w (.pair (.eq (.slice none 0 0)) (.pair (.eq (.slice none 0 0)) (.pair (.eq (.slice none 0 0)) (.eq (.slice none 0 0))))) (Value.cells (.agg #[(.slice none 0 0), (.slice none 0 0), (.slice none 0 0), (.slice none 0 0)])).toList) := fun _ _ => ⟨[_], _, rfl, ⟨rfl, rfl⟩, ⟨[_], _, rfl, ⟨rfl, rfl⟩, ⟨[_], _, rfl, ⟨rfl, rfl⟩, ⟨rfl, rfl⟩⟩⟩⟩
theorem pl84 : BdOk Try.prog 84 #[(0, 1), (1, 1), (2, 1), (3, 1), (4, 1)] := ⟨_, Try.underlying84, fun _ => by kernel_rfl⟩
theorem alb84 : ∀ S w, (A.cells S w (.pair (.eq (.slice none 0 0)) (.pair (.eq (.int .i64 (0 : Int))) (.pair (.eq (.int .i64 (0 : Int))) (.pair (.eq (.int .i64 (0 : Int))) (.eq (.int .i64 (0 : Int))))))) (Value.cells (.agg #[(.slice none 0 0), (.int .i64 (0)), (.int .i64 (0)), (.int .i64 (0)), (.int .i64 (0))])).toList) := fun _ _ => ⟨[_], _, rfl, ⟨rfl, rfl⟩, ⟨[_], _, rfl, ⟨rfl, rfl⟩, ⟨[_], _, rfl, ⟨rfl, rfl⟩, ⟨[_], _, rfl, ⟨rfl, rfl⟩, ⟨rfl, rfl⟩⟩⟩⟩⟩
theorem en30 : EnterOk Try.prog 30 := EnterOk.of Try.func30 (by kernel_rfl) (by kernel_rfl)
theorem sl40 : SlOk Try.prog 40 84 5 56 := .of (z := (.agg #[(.slice none 0 0), (.int .i64 (0)), (.int .i64 (0)), (.int .i64 (0)), (.int .i64 (0))])) Try.underlying40 (by kernel_rfl) rfl rfl rfl
theorem eq46 : EqOk Try.prog 46 tBetween := by
  refine ⟨rfl, by kernel_rfl, fun w x y => ?_⟩
  have u3 := Try.underlying3
  have a3 := Try.isAgg3
  have z3 := Try.sizeOf3
  have hS : Try.prog.underlying 46 = some (.struct (Try.prog.fieldsOf 46)) := by kernel_rfl
  have hp : Try.prog.stoodInHeld 46 = false := by kernel_rfl
  rw [show (10000 : Nat) = 9999 + 1 from rfl, run_equalIn_agg w 9999 46 _ _ hS hp]
  simp only [Program.fieldsOf, Try.underlying46, encT]
  refine ⟨decide (x = y), ?_, decide_eq_true_iff⟩
  go_simp
  obtain ⟨p0, p1⟩ := x
  obtain ⟨q0, q1⟩ := y
  by_cases h0 : p0 = q0 <;> by_cases h1 : p1 = q1 <;> simp [h0, h1]
theorem en22 : EnterOk Try.prog 22 := EnterOk.of Try.func22 (by kernel_rfl) (by kernel_rfl)
theorem en8 : EnterOk Try.prog 8 := EnterOk.of Try.func8 (by kernel_rfl) (by kernel_rfl)
theorem en13 : EnterOk Try.prog 13 := EnterOk.of Try.func13 (by kernel_rfl) (by kernel_rfl)
theorem en12 : EnterOk Try.prog 12 := EnterOk.of Try.func12 (by kernel_rfl) (by kernel_rfl)
theorem en23 : EnterOk Try.prog 23 := EnterOk.of Try.func23 (by kernel_rfl) (by kernel_rfl)
theorem en24 : EnterOk Try.prog 24 := EnterOk.of Try.func24 (by kernel_rfl) (by kernel_rfl)
theorem en4 : EnterOk Try.prog 4 := EnterOk.of Try.func4 (by kernel_rfl) (by kernel_rfl)
theorem en5 : EnterOk Try.prog 5 := EnterOk.of Try.func5 (by kernel_rfl) (by kernel_rfl)
theorem en7 : EnterOk Try.prog 7 := EnterOk.of Try.func7 (by kernel_rfl) (by kernel_rfl)
theorem en9 : EnterOk Try.prog 9 := EnterOk.of Try.func9 (by kernel_rfl) (by kernel_rfl)
abbrev Rs (t : Ty) (l : (Ty.slice t).den) : A := .rep (.slice t) l
abbrev Pv (b : Nat) : Value := .pointer (some ⟨b, 0, none⟩)
abbrev N4 : A := .agg (.pair (.eq (.slice none 0 0)) (.pair (.eq (.slice none 0 0)) (.pair (.eq (.slice none 0 0)) (.eq (.slice none 0 0)))))
abbrev Qc (q : dChange) : A := .agg (.pair (.rep (.slice tThing) q.1) (.pair (.rep (.slice tDresser) q.2.1) (.pair (Ri q.2.2.1) (Ri q.2.2.2))))
abbrev Qq (q : dChange × (List (Bool × Int)) × (List Int)) (m : A) : A := .agg (.pair (Qc q.1) (.pair (.rep (.slice (.tag 105 106)) q.2.1) (.pair (.rep (.arr 8 (.int .u8)) q.2.2) m)))
abbrev U100 := @Try.underlying100
abbrev U105 := @Try.underlying105
abbrev U106 := @Try.underlying106
abbrev U114 := @Try.underlying114
abbrev U117 := @Try.underlying117
abbrev U127 := @Try.underlying127
abbrev U135 := @Try.underlying135
abbrev U141 := @Try.underlying141
abbrev U22 := @Try.underlying22
abbrev U25 := @Try.underlying25
abbrev U26 := @Try.underlying26
abbrev U3 := @Try.underlying3
abbrev U37 := @Try.underlying37
abbrev U40 := @Try.underlying40
abbrev U41 := @Try.underlying41
abbrev U46 := @Try.underlying46
abbrev U48 := @Try.underlying48
abbrev U54 := @Try.underlying54
abbrev U61 := @Try.underlying61
abbrev U92 := @Try.underlying92
abbrev U97 := @Try.underlying97
abbrev U98 := @Try.underlying98
theorem nfs : false = false → 1 = 1 := fun _ => rfl
end Go.Proofs.Ytomnkjcklkcnhaa
