import Derived.Test.YtfhdclhbdmhnmaaB4
import Derived.Test.YtfhdclhbdmhnmaaProg
namespace Go.Proofs.Ytfhdclhbdmhnmaa
open K Go Go.Proofs
/-! Facts about the program's types, by their numbers. -/
theorem mixed : Try.prog.follows .mixedOrders = true := by kernel_rfl
theorem nfn {n : Nat} : true = false → n = 1 := fun h => nomatch h
def len8tab : ByteArray := ⟨#[0, 1, 2, 2, 3, 3, 3, 3, 4, 4, 4, 4, 4, 4, 4, 4, 5, 5, 5, 5, 5, 5, 5, 5, 5, 5, 5, 5, 5, 5, 5, 5, 6, 6, 6, 6, 6, 6, 6, 6, 6, 6, 6, 6, 6, 6, 6, 6, 6, 6, 6, 6, 6, 6, 6, 6, 6, 6, 6, 6, 6, 6, 6, 6, 7, 7, 7, 7, 7, 7, 7, 7, 7, 7, 7, 7, 7, 7, 7, 7, 7, 7, 7, 7, 7, 7, 7, 7, 7, 7, 7, 7, 7, 7, 7, 7, 7, 7, 7, 7, 7, 7, 7, 7, 7, 7, 7, 7, 7, 7, 7, 7, 7, 7, 7, 7, 7, 7, 7, 7, 7, 7, 7, 7, 7, 7, 7, 7, 8, 8, 8, 8, 8, 8, 8, 8, 8, 8, 8, 8, 8, 8, 8, 8, 8, 8, 8, 8, 8, 8, 8, 8, 8, 8, 8, 8, 8, 8, 8, 8, 8, 8, 8, 8, 8, 8, 8, 8, 8, 8, 8, 8, 8, 8, 8, 8, 8, 8, 8, 8, 8, 8, 8, 8, 8, 8, 8, 8, 8, 8, 8, 8, 8, 8, 8, 8, 8, 8, 8, 8, 8, 8, 8, 8, 8, 8, 8, 8, 8, 8, 8, 8, 8, 8, 8, 8, 8, 8, 8, 8, 8, 8, 8, 8, 8, 8, 8, 8, 8, 8, 8, 8, 8, 8, 8, 8, 8, 8, 8, 8, 8, 8, 8, 8, 8, 8, 8, 8, 8, 8, 8, 8, 8, 8, 8, 8]⟩
@[reducible] def tThing : Ty := .agg (.pair (.slice (.int .i64)) (.pair (.int .i64) (.pair (.int .i64) (.pair (.int .i64) (.int .i64)))))
abbrev dThing := ((List Int) × (Int × (Int × (Int × Int))))
@[reducible] def tDresser : Ty := .agg (.pair (.slice (.int .i64)) (.pair (.int .i64) (.int .i64)))
abbrev dDresser := ((List Int) × (Int × Int))
@[reducible] def tChange : Ty := .agg (.pair (.slice tThing) (.pair (.slice tDresser) (.pair (.slice (.int .i64)) (.slice (.int .i64)))))
abbrev dChange := ((List dThing) × ((List dDresser) × ((List Int) × (List Int))))
@[reducible] def tTask : Ty := .agg (.pair (.int .i64) .bool)
abbrev dTask := (Int × Bool)
@[reducible] def tStep : Ty := .agg (.pair (.int .i64) (.int .i64))
abbrev dStep := (Int × Int)
@[reducible] def tLots : Ty := .agg (.pair (.slice (.int .i64)) (.pair (.int .i64) (.int .u64)))
abbrev dLots := ((List Int) × (Int × Int))
@[reducible] def tquick : Ty := .agg (.pair tChange (.pair (.slice (.tag 131 133)) (.pair (.arr 8 (.int .u8)) .ign)))
abbrev dquick := (dChange × ((List (Bool × Int)) × ((List Int) × Unit)))
theorem pl93 : BdOk Try.prog 93 #[(0, 1), (1, 1), (2, 1)] := ⟨_, Try.underlying93, fun _ => by kernel_rfl⟩
theorem za93 : ∀ w, (zeroValue 93).run Try.prog w = .ok (.agg #[(.slice none 0 0), (.int .i64 (0)), (.int .u64 (0))]) w := fun w => by kernel_rfl
theorem alb93 : ∀ S w, (A.cells S w (.pair (.eq (.slice none 0 0)) (.pair (.eq (.int .i64 (0 : Int))) (.eq (.int .u64 (0 : Int))))) (Value.cells (.agg #[(.slice none 0 0), (.int .i64 (0)), (.int .u64 (0))])).toList) := fun _ _ => ⟨[_], _, rfl, ⟨rfl, rfl⟩, ⟨[_], _, rfl, ⟨rfl, rfl⟩, ⟨rfl, rfl⟩⟩⟩
theorem sz3 : SzOk Try.prog 3 1 false := ⟨fun w => by kernel_rfl, fun w => by kernel_rfl⟩
theorem fo28_0 : FieldOk Try.prog 28 0 0 := fun w b k => by kernel_rfl
theorem sz25 : SzOk Try.prog 25 1 false := ⟨fun w => by kernel_rfl, fun w => by kernel_rfl⟩
theorem sl107 : SlOk Try.prog 107 4 1 1 := .of (z := (.bool false)) Try.underlying107 (by kernel_rfl) rfl rfl rfl
theorem zr4 : ∀ i z, Try.prog.info? 4 = some i → i.zero = some z → ∀ S w, rd S w .bool false z.cells.toList := zrd_of (z0 := (.bool false)) (by kernel_rfl) fun _ _ => rfl
theorem fo28_2 : FieldOk Try.prog 28 2 2 := fun w b k => by kernel_rfl
theorem sz22 : SzOk Try.prog 22 1 false := ⟨fun w => by kernel_rfl, fun w => by kernel_rfl⟩
theorem en30 : EnterOk Try.prog 30 := EnterOk.of Try.func30 (by kernel_rfl) (by kernel_rfl)
theorem fo28_3 : FieldOk Try.prog 28 3 3 := fun w b k => by kernel_rfl
theorem sz4 : SzOk Try.prog 4 1 false := ⟨fun w => by kernel_rfl, fun w => by kernel_rfl⟩
theorem sz45 : SzOk Try.prog 45 5 true := ⟨fun w => by kernel_rfl, fun w => by kernel_rfl⟩
theorem fo45_0 : FieldOk Try.prog 45 0 0 := fun w b k => by kernel_rfl
theorem pl41 : BdOk Try.prog 41 #[(0, 1), (1, 1)] := ⟨_, Try.underlying41, fun _ => by kernel_rfl⟩
theorem za41 : ∀ w, (zeroValue 41).run Try.prog w = .ok (.agg #[(.int .i64 (0)), (.bool false)]) w := fun w => by kernel_rfl
theorem alb41 : ∀ S w, (A.cells S w (.pair (.eq (.int .i64 (0 : Int))) (.eq (.bool false))) (Value.cells (.agg #[(.int .i64 (0)), (.bool false)])).toList) := fun _ _ => ⟨[_], _, rfl, ⟨rfl, rfl⟩, ⟨rfl, rfl⟩⟩
theorem sl38 : SlOk Try.prog 38 41 2 16 := .of (z := (.agg #[(.int .i64 (0)), (.bool false)])) Try.underlying38 (by kernel_rfl) rfl rfl rfl
theorem fo93_2 : FieldOk Try.prog 93 2 2 := fun w b k => by kernel_rfl
theorem sz91 : SzOk Try.prog 91 1 false := ⟨fun w => by kernel_rfl, fun w => by kernel_rfl⟩
theorem fo93_1 : FieldOk Try.prog 93 1 1 := fun w b k => by kernel_rfl
theorem fo93_0 : FieldOk Try.prog 93 0 0 := fun w b k => by kernel_rfl
theorem en77 : EnterOk Try.prog 77 := EnterOk.of Try.func77 (by kernel_rfl) (by kernel_rfl)
theorem en32 : EnterOk Try.prog 32 := EnterOk.of Try.func32 (by kernel_rfl) (by kernel_rfl)
theorem za28 : ∀ w, (zeroValue 28).run Try.prog w = .ok (.agg #[(.slice none 0 0), (.slice none 0 0), (.slice none 0 0), (.slice none 0 0)]) w := fun w => by kernel_rfl
theorem al28 : ∀ S w, (A.cells S w (.agg (.pair (.eq (.slice none 0 0)) (.pair (.eq (.slice none 0 0)) (.pair (.eq (.slice none 0 0)) (.eq (.slice none 0 0)))))) (Value.cells (.agg #[(.slice none 0 0), (.slice none 0 0), (.slice none 0 0), (.slice none 0 0)])).toList) := fun _ _ => ⟨[_], _, rfl, ⟨rfl, rfl⟩, ⟨[_], _, rfl, ⟨rfl, rfl⟩, ⟨[_], _, rfl, ⟨rfl, rfl⟩, ⟨rfl, rfl⟩⟩⟩⟩
theorem en60 : EnterOk Try.prog 60 := EnterOk.of Try.func60 (by kernel_rfl) (by kernel_rfl)
theorem en61 : EnterOk Try.prog 61 := EnterOk.of Try.func61 (by kernel_rfl) (by kernel_rfl)
theorem sl22 : SlOk Try.prog 22 3 1 8 := .of (z := (.int .i64 (0))) Try.underlying22 (by kernel_rfl) rfl rfl rfl
theorem en62 : EnterOk Try.prog 62 := EnterOk.of Try.func62 (by kernel_rfl) (by kernel_rfl)
theorem pl45 : BdOk Try.prog 45 #[(0, 1), (1, 1), (2, 1), (3, 1), (4, 1)] := ⟨_, Try.underlying45, fun _ => by kernel_rfl⟩
theorem za45 : ∀ w, (zeroValue 45).run Try.prog w = .ok (.agg #[(.slice none 0 0), (.int .i64 (0)), (.int .i64 (0)), (.int .i64 (0)), (.int .i64 (0))]) w := fun w => by kernel_rfl
theorem alb45 : ∀ S w, (A.cells S w (.pair (.eq (.slice none 0 0)) (.pair (.eq (.int .i64 (0 : Int))) (.pair (.eq (.int .i64 (0 : Int))) (.pair (.eq (.int .i64 (0 : Int))) (.eq (.int .i64 (0 : Int))))))) (Value.cells (.agg #[(.slice none 0 0), (.int .i64 (0)), (.int .i64 (0)), (.int .i64 (0)), (.int .i64 (0))])).toList) := fun _ _ => ⟨[_], _, rfl, ⟨rfl, rfl⟩, ⟨[_], _, rfl, ⟨rfl, rfl⟩, ⟨[_], _, rfl, ⟨rfl, rfl⟩, ⟨[_], _, rfl, ⟨rfl, rfl⟩, ⟨rfl, rfl⟩⟩⟩⟩⟩
theorem al45 : ∀ S w, (A.cells S w (.agg (.pair (.eq (.slice none 0 0)) (.pair (.eq (.int .i64 (0 : Int))) (.pair (.eq (.int .i64 (0 : Int))) (.pair (.eq (.int .i64 (0 : Int))) (.eq (.int .i64 (0 : Int)))))))) (Value.cells (.agg #[(.slice none 0 0), (.int .i64 (0)), (.int .i64 (0)), (.int .i64 (0)), (.int .i64 (0))])).toList) := fun _ _ => ⟨[_], _, rfl, ⟨rfl, rfl⟩, ⟨[_], _, rfl, ⟨rfl, rfl⟩, ⟨[_], _, rfl, ⟨rfl, rfl⟩, ⟨[_], _, rfl, ⟨rfl, rfl⟩, ⟨rfl, rfl⟩⟩⟩⟩⟩
theorem sl25 : SlOk Try.prog 25 45 5 56 := .of (z := (.agg #[(.slice none 0 0), (.int .i64 (0)), (.int .i64 (0)), (.int .i64 (0)), (.int .i64 (0))])) Try.underlying25 (by kernel_rfl) rfl rfl rfl
theorem pl53 : BdOk Try.prog 53 #[(0, 1), (1, 1), (2, 1)] := ⟨_, Try.underlying53, fun _ => by kernel_rfl⟩
theorem za53 : ∀ w, (zeroValue 53).run Try.prog w = .ok (.agg #[(.slice none 0 0), (.int .i64 (0)), (.int .i64 (0))]) w := fun w => by kernel_rfl
theorem alb53 : ∀ S w, (A.cells S w (.pair (.eq (.slice none 0 0)) (.pair (.eq (.int .i64 (0 : Int))) (.eq (.int .i64 (0 : Int))))) (Value.cells (.agg #[(.slice none 0 0), (.int .i64 (0)), (.int .i64 (0))])).toList) := fun _ _ => ⟨[_], _, rfl, ⟨rfl, rfl⟩, ⟨[_], _, rfl, ⟨rfl, rfl⟩, ⟨rfl, rfl⟩⟩⟩
theorem al53 : ∀ S w, (A.cells S w (.agg (.pair (.eq (.slice none 0 0)) (.pair (.eq (.int .i64 (0 : Int))) (.eq (.int .i64 (0 : Int)))))) (Value.cells (.agg #[(.slice none 0 0), (.int .i64 (0)), (.int .i64 (0))])).toList) := fun _ _ => ⟨[_], _, rfl, ⟨rfl, rfl⟩, ⟨[_], _, rfl, ⟨rfl, rfl⟩, ⟨rfl, rfl⟩⟩⟩
theorem sz53 : SzOk Try.prog 53 3 true := ⟨fun w => by kernel_rfl, fun w => by kernel_rfl⟩
theorem fo53_0 : FieldOk Try.prog 53 0 0 := fun w b k => by kernel_rfl
theorem fo28_1 : FieldOk Try.prog 28 1 1 := fun w b k => by kernel_rfl
theorem sz26 : SzOk Try.prog 26 1 false := ⟨fun w => by kernel_rfl, fun w => by kernel_rfl⟩
theorem sl26 : SlOk Try.prog 26 53 3 40 := .of (z := (.agg #[(.slice none 0 0), (.int .i64 (0)), (.int .i64 (0))])) Try.underlying26 (by kernel_rfl) rfl rfl rfl
theorem sz28 : SzOk Try.prog 28 4 true := ⟨fun w => by kernel_rfl, fun w => by kernel_rfl⟩
theorem en23 : EnterOk Try.prog 23 := EnterOk.of Try.func23 (by kernel_rfl) (by kernel_rfl)
theorem fo45_3 : FieldOk Try.prog 45 3 3 := fun w b k => by kernel_rfl
theorem fo53_1 : FieldOk Try.prog 53 1 1 := fun w b k => by kernel_rfl
theorem pl43 : BdOk Try.prog 43 #[(0, 1), (1, 1)] := ⟨_, Try.underlying43, fun _ => by kernel_rfl⟩
theorem za43 : ∀ w, (zeroValue 43).run Try.prog w = .ok (.agg #[(.int .i64 (0)), (.int .i64 (0))]) w := fun w => by kernel_rfl
theorem alb43 : ∀ S w, (A.cells S w (.pair (.eq (.int .i64 (0 : Int))) (.eq (.int .i64 (0 : Int)))) (Value.cells (.agg #[(.int .i64 (0)), (.int .i64 (0))])).toList) := fun _ _ => ⟨[_], _, rfl, ⟨rfl, rfl⟩, ⟨rfl, rfl⟩⟩
theorem sl30 : SlOk Try.prog 30 43 2 16 := .of (z := (.agg #[(.int .i64 (0)), (.int .i64 (0))])) Try.underlying30 (by kernel_rfl) rfl rfl rfl
theorem sz43 : SzOk Try.prog 43 2 true := ⟨fun w => by kernel_rfl, fun w => by kernel_rfl⟩
theorem fo43_0 : FieldOk Try.prog 43 0 0 := fun w b k => by kernel_rfl
theorem en71 : EnterOk Try.prog 71 := EnterOk.of Try.func71 (by kernel_rfl) (by kernel_rfl)
theorem en78 : EnterOk Try.prog 78 := EnterOk.of Try.func78 (by kernel_rfl) (by kernel_rfl)
theorem en91 : EnterOk Try.prog 91 := EnterOk.of Try.func91 (by kernel_rfl) (by kernel_rfl)
theorem fo45_1 : FieldOk Try.prog 45 1 1 := fun w b k => by kernel_rfl
theorem fo45_2 : FieldOk Try.prog 45 2 2 := fun w b k => by kernel_rfl
theorem fo45_4 : FieldOk Try.prog 45 4 4 := fun w b k => by kernel_rfl
theorem za165 : ∀ w, (zeroValue 165).run Try.prog w = .ok (.agg #[(.int .u8 (0)), (.int .u8 (0)), (.int .u8 (0)), (.int .u8 (0))]) w := fun w => by kernel_rfl
theorem al165 : ∀ S w, (A.cells S w (.rep (.arr 4 (.int .u8)) [(0 : Int), (0 : Int), (0 : Int), (0 : Int)]) (Value.cells (.agg #[(.int .u8 (0)), (.int .u8 (0)), (.int .u8 (0)), (.int .u8 (0))])).toList) := fun _ _ => ⟨rfl, ⟨[_], _, rfl, rfl, ⟨[_], _, rfl, rfl, ⟨[_], _, rfl, rfl, ⟨[_], _, rfl, rfl, rfl⟩⟩⟩⟩⟩
theorem sz106 : SzOk Try.prog 106 1 false := ⟨fun w => by kernel_rfl, fun w => by kernel_rfl⟩
theorem en81 : EnterOk Try.prog 81 := EnterOk.of Try.func81 (by kernel_rfl) (by kernel_rfl)
theorem en88 : EnterOk Try.prog 88 := EnterOk.of Try.func88 (by kernel_rfl) (by kernel_rfl)
theorem en90 : EnterOk Try.prog 90 := EnterOk.of Try.func90 (by kernel_rfl) (by kernel_rfl)
theorem fo53_2 : FieldOk Try.prog 53 2 2 := fun w b k => by kernel_rfl
theorem sz98 : SzOk Try.prog 98 1 false := ⟨fun w => by kernel_rfl, fun w => by kernel_rfl⟩
theorem fo120_2 : FieldOk Try.prog 120 2 5 := fun w b k => by kernel_rfl
theorem fo120_1 : FieldOk Try.prog 120 1 4 := fun w b k => by kernel_rfl
theorem sz116 : SzOk Try.prog 116 1 false := ⟨fun w => by kernel_rfl, fun w => by kernel_rfl⟩
theorem sz130 : SzOk Try.prog 130 1 false := ⟨fun w => by kernel_rfl, fun w => by kernel_rfl⟩
theorem ta131 : TaOk Try.prog 131 := ⟨Try.underlying131, fun w => by kernel_rfl⟩
theorem mt131_thing : MthOk Try.prog 131 "galloon/change.thing" 79 := fun n w => by kernel_rfl
theorem mt133_thing : MthOk Try.prog 133 "galloon/change.thing" 80 := fun n w => by kernel_rfl
theorem ta133 : TaOk Try.prog 133 := ⟨Try.underlying133, fun w => by kernel_rfl⟩
theorem fo120_0 : FieldOk Try.prog 120 0 0 := fun w b k => by kernel_rfl
theorem en119 : EnterOk Try.prog 119 := EnterOk.of Try.func119 (by kernel_rfl) (by kernel_rfl)
theorem en118 : EnterOk Try.prog 118 := EnterOk.of Try.func118 (by kernel_rfl) (by kernel_rfl)
theorem en50 : EnterOk Try.prog 50 := EnterOk.of Try.func50 (by kernel_rfl) (by kernel_rfl)
theorem pl120 : BdOk Try.prog 120 #[(0, 4), (4, 1), (5, 8), (13, 1)] := ⟨_, Try.underlying120, fun _ => by kernel_rfl⟩
theorem za120 : ∀ w, (zeroValue 120).run Try.prog w = .ok (.agg #[(.slice none 0 0), (.slice none 0 0), (.slice none 0 0), (.slice none 0 0), (.slice none 0 0), (.int .u8 (0)), (.int .u8 (0)), (.int .u8 (0)), (.int .u8 (0)), (.int .u8 (0)), (.int .u8 (0)), (.int .u8 (0)), (.int .u8 (0)), (.map none)]) w := fun w => by kernel_rfl
theorem alb120 : ∀ S w, (A.cells S w (.pair (.agg (.pair (.eq (.slice none 0 0)) (.pair (.eq (.slice none 0 0)) (.pair (.eq (.slice none 0 0)) (.eq (.slice none 0 0)))))) (.pair (.eq (.slice none 0 0)) (.pair (.rep (.arr 8 (.int .u8)) [(0 : Int), (0 : Int), (0 : Int), (0 : Int), (0 : Int), (0 : Int), (0 : Int), (0 : Int)]) (.eq (.map none))))) (Value.cells (.agg #[(.slice none 0 0), (.slice none 0 0), (.slice none 0 0), (.slice none 0 0), (.slice none 0 0), (.int .u8 (0)), (.int .u8 (0)), (.int .u8 (0)), (.int .u8 (0)), (.int .u8 (0)), (.int .u8 (0)), (.int .u8 (0)), (.int .u8 (0)), (.map none)])).toList) := fun _ _ => ⟨[_, _, _, _], _, rfl, ⟨[_], _, rfl, ⟨rfl, rfl⟩, ⟨[_], _, rfl, ⟨rfl, rfl⟩, ⟨[_], _, rfl, ⟨rfl, rfl⟩, ⟨rfl, rfl⟩⟩⟩⟩, ⟨[_], _, rfl, ⟨rfl, rfl⟩, ⟨[_, _, _, _, _, _, _, _], _, rfl, ⟨rfl, ⟨[_], _, rfl, rfl, ⟨[_], _, rfl, rfl, ⟨[_], _, rfl, rfl, ⟨[_], _, rfl, rfl, ⟨[_], _, rfl, rfl, ⟨[_], _, rfl, rfl, ⟨[_], _, rfl, rfl, ⟨[_], _, rfl, rfl, rfl⟩⟩⟩⟩⟩⟩⟩⟩⟩, ⟨rfl, rfl⟩⟩⟩⟩
theorem en102 : EnterOk Try.prog 102 := EnterOk.of Try.func102 (by kernel_rfl) (by kernel_rfl)
theorem en82 : EnterOk Try.prog 82 := EnterOk.of Try.func82 (by kernel_rfl) (by kernel_rfl)
theorem sl116 : SlOk Try.prog 116 130 1 16 := .of (z := .nilIface) Try.underlying116 (by kernel_rfl) rfl rfl rfl
theorem en103 : EnterOk Try.prog 103 := EnterOk.of Try.func103 (by kernel_rfl) (by kernel_rfl)
theorem en110 : EnterOk Try.prog 110 := EnterOk.of Try.func110 (by kernel_rfl) (by kernel_rfl)
theorem en74 : EnterOk Try.prog 74 := EnterOk.of Try.func74 (by kernel_rfl) (by kernel_rfl)
theorem en117 : EnterOk Try.prog 117 := EnterOk.of Try.func117 (by kernel_rfl) (by kernel_rfl)
theorem sz32 : SzOk Try.prog 32 1 false := ⟨fun w => by kernel_rfl, fun w => by kernel_rfl⟩
theorem ta167 : TaOk Try.prog 167 := ⟨Try.underlying167, fun w => by kernel_rfl⟩
theorem za32 : ∀ w, (zeroValue 32).run Try.prog w = .ok (.int .i64 (0)) w := fun w => by kernel_rfl
theorem al32 : ∀ S w, (A.cells S w (.eq (.int .i64 (0 : Int))) (Value.cells (.int .i64 (0))).toList) := fun _ _ => ⟨rfl, rfl⟩
theorem al43 : ∀ S w, (A.cells S w (.agg (.pair (.eq (.int .i64 (0 : Int))) (.eq (.int .i64 (0 : Int))))) (Value.cells (.agg #[(.int .i64 (0)), (.int .i64 (0))])).toList) := fun _ _ => ⟨[_], _, rfl, ⟨rfl, rfl⟩, ⟨rfl, rfl⟩⟩
theorem fo43_1 : FieldOk Try.prog 43 1 1 := fun w b k => by kernel_rfl
theorem en107 : EnterOk Try.prog 107 := EnterOk.of Try.func107 (by kernel_rfl) (by kernel_rfl)
theorem en67 : EnterOk Try.prog 67 := EnterOk.of Try.func67 (by kernel_rfl) (by kernel_rfl)
theorem en100 : EnterOk Try.prog 100 := EnterOk.of Try.func100 (by kernel_rfl) (by kernel_rfl)
theorem za101 : ∀ w, (zeroValue 101).run Try.prog w = .ok (.agg #[(.int .i64 (0)), (.int .i64 (0)), (.int .i64 (0)), (.int .i64 (0))]) w := fun w => by kernel_rfl
theorem al101 : ∀ S w, (A.cells S w (.rep (.arr 4 (.int .i64)) [(0 : Int), (0 : Int), (0 : Int), (0 : Int)]) (Value.cells (.agg #[(.int .i64 (0)), (.int .i64 (0)), (.int .i64 (0)), (.int .i64 (0))])).toList) := fun _ _ => ⟨rfl, ⟨[_], _, rfl, rfl, ⟨[_], _, rfl, rfl, ⟨[_], _, rfl, rfl, ⟨[_], _, rfl, rfl, rfl⟩⟩⟩⟩⟩
theorem za149 : ∀ w, (zeroValue 149).run Try.prog w = .ok (.agg #[(.int .i64 (0)), (.int .i64 (0)), (.int .i64 (0))]) w := fun w => by kernel_rfl
theorem al149 : ∀ S w, (A.cells S w (.rep (.arr 3 (.int .i64)) [(0 : Int), (0 : Int), (0 : Int)]) (Value.cells (.agg #[(.int .i64 (0)), (.int .i64 (0)), (.int .i64 (0))])).toList) := fun _ _ => ⟨rfl, ⟨[_], _, rfl, rfl, ⟨[_], _, rfl, rfl, ⟨[_], _, rfl, rfl, rfl⟩⟩⟩⟩
theorem en101 : EnterOk Try.prog 101 := EnterOk.of Try.func101 (by kernel_rfl) (by kernel_rfl)
theorem sz101 : SzOk Try.prog 101 4 true := ⟨fun w => by kernel_rfl, fun w => by kernel_rfl⟩
theorem en64 : EnterOk Try.prog 64 := EnterOk.of Try.func64 (by kernel_rfl) (by kernel_rfl)
theorem en65 : EnterOk Try.prog 65 := EnterOk.of Try.func65 (by kernel_rfl) (by kernel_rfl)
theorem en66 : EnterOk Try.prog 66 := EnterOk.of Try.func66 (by kernel_rfl) (by kernel_rfl)
theorem sz30 : SzOk Try.prog 30 1 false := ⟨fun w => by kernel_rfl, fun w => by kernel_rfl⟩
theorem sz153 : SzOk Try.prog 153 1 false := ⟨fun w => by kernel_rfl, fun w => by kernel_rfl⟩
theorem en106 : EnterOk Try.prog 106 := EnterOk.of Try.func106 (by kernel_rfl) (by kernel_rfl)
theorem sz154 : SzOk Try.prog 154 1 false := ⟨fun w => by kernel_rfl, fun w => by kernel_rfl⟩
theorem en105 : EnterOk Try.prog 105 := EnterOk.of Try.func105 (by kernel_rfl) (by kernel_rfl)
theorem za30 : ∀ w, (zeroValue 30).run Try.prog w = .ok (.slice none 0 0) w := fun w => by kernel_rfl
theorem al30 : ∀ S w, (A.cells S w (.eq (.slice none 0 0)) (Value.cells (.slice none 0 0)).toList) := fun _ _ => ⟨rfl, rfl⟩
theorem za154 : ∀ w, (zeroValue 154).run Try.prog w = .ok .nilFunc w := fun w => by kernel_rfl
theorem al154 : ∀ S w, (A.cells S w (.eq .nilFunc) (Value.cells .nilFunc).toList) := fun _ _ => ⟨rfl, rfl⟩
theorem za158 : ∀ w, (zeroValue 158).run Try.prog w = .ok (.agg #[(.int .i64 (0)), (.int .i64 (0)), (.int .i64 (0)), (.int .i64 (0)), (.int .i64 (0)), (.int .i64 (0)), (.int .i64 (0)), (.int .i64 (0))]) w := fun w => by kernel_rfl
theorem al158 : ∀ S w, (A.cells S w (.rep (.arr 4 tStep) [((0 : Int), (0 : Int)), ((0 : Int), (0 : Int)), ((0 : Int), (0 : Int)), ((0 : Int), (0 : Int))]) (Value.cells (.agg #[(.int .i64 (0)), (.int .i64 (0)), (.int .i64 (0)), (.int .i64 (0)), (.int .i64 (0)), (.int .i64 (0)), (.int .i64 (0)), (.int .i64 (0))])).toList) := fun _ _ => ⟨rfl, ⟨[_, _], _, rfl, ⟨[_], _, rfl, rfl, rfl⟩, ⟨[_, _], _, rfl, ⟨[_], _, rfl, rfl, rfl⟩, ⟨[_, _], _, rfl, ⟨[_], _, rfl, rfl, rfl⟩, ⟨[_, _], _, rfl, ⟨[_], _, rfl, rfl, rfl⟩, rfl⟩⟩⟩⟩⟩
theorem sz158 : SzOk Try.prog 158 8 true := ⟨fun w => by kernel_rfl, fun w => by kernel_rfl⟩
theorem en108 : EnterOk Try.prog 108 := EnterOk.of Try.func108 (by kernel_rfl) (by kernel_rfl)
theorem zvLine : ∀ w, (zeroValue 3).run Try.prog w = .ok (.int .i64 0) w := fun w => by kernel_rfl
theorem fo120_3 : FieldOk Try.prog 120 3 13 := fun w b k => by kernel_rfl
theorem sz118 : SzOk Try.prog 118 1 false := ⟨fun w => by kernel_rfl, fun w => by kernel_rfl⟩
theorem en109 : EnterOk Try.prog 109 := EnterOk.of Try.func109 (by kernel_rfl) (by kernel_rfl)
theorem za3 : ∀ w, (zeroValue 3).run Try.prog w = .ok (.int .i64 (0)) w := fun w => by kernel_rfl
theorem al3 : ∀ S w, (A.cells S w (.eq (.int .i64 (0 : Int))) (Value.cells (.int .i64 (0))).toList) := fun _ _ => ⟨rfl, rfl⟩
theorem za4 : ∀ w, (zeroValue 4).run Try.prog w = .ok (.bool false) w := fun w => by kernel_rfl
theorem al4 : ∀ S w, (A.cells S w (.eq (.bool false)) (Value.cells (.bool false)).toList) := fun _ _ => ⟨rfl, rfl⟩
theorem sz114 : SzOk Try.prog 114 1 false := ⟨fun w => by kernel_rfl, fun w => by kernel_rfl⟩
theorem en70 : EnterOk Try.prog 70 := EnterOk.of Try.func70 (by kernel_rfl) (by kernel_rfl)
theorem en104 : EnterOk Try.prog 104 := EnterOk.of Try.func104 (by kernel_rfl) (by kernel_rfl)
theorem en69 : EnterOk Try.prog 69 := EnterOk.of Try.func69 (by kernel_rfl) (by kernel_rfl)
theorem en68 : EnterOk Try.prog 68 := EnterOk.of Try.func68 (by kernel_rfl) (by kernel_rfl)
theorem en72 : EnterOk Try.prog 72 := EnterOk.of Try.func72 (by kernel_rfl) (by kernel_rfl)
theorem en73 : EnterOk Try.prog 73 := EnterOk.of Try.func73 (by kernel_rfl) (by kernel_rfl)
theorem en136 : EnterOk Try.prog 136 := EnterOk.of Try.func136 (by kernel_rfl) (by kernel_rfl)
theorem en126 : EnterOk Try.prog 126 := EnterOk.of Try.func126 (by kernel_rfl) (by kernel_rfl)
theorem en130 : EnterOk Try.prog 130 := EnterOk.of Try.func130 (by kernel_rfl) (by kernel_rfl)
theorem en120 : EnterOk Try.prog 120 := EnterOk.of Try.func120 (by kernel_rfl) (by kernel_rfl)
theorem en112 : EnterOk Try.prog 112 := EnterOk.of Try.func112 (by kernel_rfl) (by kernel_rfl)
theorem en111 : EnterOk Try.prog 111 := EnterOk.of Try.func111 (by kernel_rfl) (by kernel_rfl)
theorem en75 : EnterOk Try.prog 75 := EnterOk.of Try.func75 (by kernel_rfl) (by kernel_rfl)
theorem en76 : EnterOk Try.prog 76 := EnterOk.of Try.func76 (by kernel_rfl) (by kernel_rfl)
theorem sl128 : SlOk Try.prog 128 98 1 8 := .of (z := (.pointer none)) Try.underlying128 (by kernel_rfl) rfl rfl rfl
theorem eq43 : EqOk Try.prog 43 tStep := by
  refine ⟨rfl, by kernel_rfl, fun w x y => ?_⟩
  have u3 := Try.underlying3
  have a3 := Try.isAgg3
  have z3 := Try.sizeOf3
  have hS : Try.prog.underlying 43 = some (.struct (Try.prog.fieldsOf 43)) := by kernel_rfl
  have hp : Try.prog.stoodInHeld 43 = false := by kernel_rfl
  rw [show (10000 : Nat) = 9999 + 1 from rfl, run_equalIn_agg w 9999 43 _ _ hS hp]
  simp only [Program.fieldsOf, Try.underlying43, encT]
  refine ⟨decide (x = y), ?_, decide_eq_true_iff⟩
  go_simp
  obtain ⟨p0, p1⟩ := x
  obtain ⟨q0, q1⟩ := y
  by_cases h0 : p0 = q0 <;> by_cases h1 : p1 = q1 <;> simp [h0, h1]
theorem pl28 : BdOk Try.prog 28 #[(0, 1), (1, 1), (2, 1), (3, 1)] := ⟨_, Try.underlying28, fun _ => by kernel_rfl⟩
theorem alb28 : ∀ S w, (A.cells S w (.pair (.eq (.slice none 0 0)) (.pair (.eq (.slice none 0 0)) (.pair (.eq (.slice none 0 0)) (.eq (.slice none 0 0))))) (Value.cells (.agg #[(.slice none 0 0), (.slice none 0 0), (.slice none 0 0), (.slice none 0 0)])).toList) := fun _ _ => ⟨[_], _, rfl, ⟨rfl, rfl⟩, ⟨[_], _, rfl, ⟨rfl, rfl⟩, ⟨[_], _, rfl, ⟨rfl, rfl⟩, ⟨rfl, rfl⟩⟩⟩⟩
theorem en58 : EnterOk Try.prog 58 := EnterOk.of Try.func58 (by kernel_rfl) (by kernel_rfl)
theorem en25 : EnterOk Try.prog 25 := EnterOk.of Try.func25 (by kernel_rfl) (by kernel_rfl)
theorem en59 : EnterOk Try.prog 59 := EnterOk.of Try.func59 (by kernel_rfl) (by kernel_rfl)
theorem en20 : EnterOk Try.prog 20 := EnterOk.of Try.func20 (by kernel_rfl) (by kernel_rfl)
theorem en21 : EnterOk Try.prog 21 := EnterOk.of Try.func21 (by kernel_rfl) (by kernel_rfl)
theorem en26 : EnterOk Try.prog 26 := EnterOk.of Try.func26 (by kernel_rfl) (by kernel_rfl)
theorem en39 : EnterOk Try.prog 39 := EnterOk.of Try.func39 (by kernel_rfl) (by kernel_rfl)
theorem sl62 : SlOk Try.prog 62 28 4 96 := .of (z := (.agg #[(.slice none 0 0), (.slice none 0 0), (.slice none 0 0), (.slice none 0 0)])) Try.underlying62 (by kernel_rfl) rfl rfl rfl
theorem en33 : EnterOk Try.prog 33 := EnterOk.of Try.func33 (by kernel_rfl) (by kernel_rfl)
theorem en29 : EnterOk Try.prog 29 := EnterOk.of Try.func29 (by kernel_rfl) (by kernel_rfl)
theorem en44 : EnterOk Try.prog 44 := EnterOk.of Try.func44 (by kernel_rfl) (by kernel_rfl)
theorem en40 : EnterOk Try.prog 40 := EnterOk.of Try.func40 (by kernel_rfl) (by kernel_rfl)
theorem en17 : EnterOk Try.prog 17 := EnterOk.of Try.func17 (by kernel_rfl) (by kernel_rfl)
theorem en18 : EnterOk Try.prog 18 := EnterOk.of Try.func18 (by kernel_rfl) (by kernel_rfl)
theorem en22 : EnterOk Try.prog 22 := EnterOk.of Try.func22 (by kernel_rfl) (by kernel_rfl)
theorem en37 : EnterOk Try.prog 37 := EnterOk.of Try.func37 (by kernel_rfl) (by kernel_rfl)
theorem en27 : EnterOk Try.prog 27 := EnterOk.of Try.func27 (by kernel_rfl) (by kernel_rfl)
theorem en83 : EnterOk Try.prog 83 := EnterOk.of Try.func83 (by kernel_rfl) (by kernel_rfl)
theorem sl78 : SlOk Try.prog 78 22 1 24 := .of (z := (.slice none 0 0)) Try.underlying78 (by kernel_rfl) rfl rfl rfl
theorem en41 : EnterOk Try.prog 41 := EnterOk.of Try.func41 (by kernel_rfl) (by kernel_rfl)
theorem sz47 : SzOk Try.prog 47 1 false := ⟨fun w => by kernel_rfl, fun w => by kernel_rfl⟩
theorem sz166 : SzOk Try.prog 166 1 false := ⟨fun w => by kernel_rfl, fun w => by kernel_rfl⟩
theorem en116 : EnterOk Try.prog 116 := EnterOk.of Try.func116 (by kernel_rfl) (by kernel_rfl)
theorem za22 : ∀ w, (zeroValue 22).run Try.prog w = .ok (.slice none 0 0) w := fun w => by kernel_rfl
theorem al22 : ∀ S w, (A.cells S w (.eq (.slice none 0 0)) (Value.cells (.slice none 0 0)).toList) := fun _ _ => ⟨rfl, rfl⟩
theorem za166 : ∀ w, (zeroValue 166).run Try.prog w = .ok .nilFunc w := fun w => by kernel_rfl
theorem al166 : ∀ S w, (A.cells S w (.eq .nilFunc) (Value.cells .nilFunc).toList) := fun _ _ => ⟨rfl, rfl⟩
theorem za98 : ∀ w, (zeroValue 98).run Try.prog w = .ok (.pointer none) w := fun w => by kernel_rfl
theorem al98 : ∀ S w, (A.cells S w (.eq (.pointer none)) (Value.cells (.pointer none)).toList) := fun _ _ => ⟨rfl, rfl⟩
theorem en98 : EnterOk Try.prog 98 := EnterOk.of Try.func98 (by kernel_rfl) (by kernel_rfl)
theorem en115 : EnterOk Try.prog 115 := EnterOk.of Try.func115 (by kernel_rfl) (by kernel_rfl)
theorem en56 : EnterOk Try.prog 56 := EnterOk.of Try.func56 (by kernel_rfl) (by kernel_rfl)
theorem en99 : EnterOk Try.prog 99 := EnterOk.of Try.func99 (by kernel_rfl) (by kernel_rfl)
theorem en55 : EnterOk Try.prog 55 := EnterOk.of Try.func55 (by kernel_rfl) (by kernel_rfl)
theorem en57 : EnterOk Try.prog 57 := EnterOk.of Try.func57 (by kernel_rfl) (by kernel_rfl)
abbrev Rs (t : Ty) (l : (Ty.slice t).den) : A := .rep (.slice t) l
abbrev Pv (b : Nat) : Value := .pointer (some ⟨b, 0, none⟩)
abbrev N4 : A := .agg (.pair (.eq (.slice none 0 0)) (.pair (.eq (.slice none 0 0)) (.pair (.eq (.slice none 0 0)) (.eq (.slice none 0 0)))))
abbrev Qc (q : dChange) : A := .agg (.pair (.rep (.slice tThing) q.1) (.pair (.rep (.slice tDresser) q.2.1) (.pair (Ri q.2.2.1) (Ri q.2.2.2))))
abbrev Qq (q : dChange × (List (Bool × Int)) × (List Int)) (m : A) : A := .agg (.pair (Qc q.1) (.pair (.rep (.slice (.tag 131 133)) q.2.1) (.pair (.rep (.arr 8 (.int .u8)) q.2.2) m)))
abbrev U101 := @Try.underlying101
abbrev U107 := @Try.underlying107
abbrev U116 := @Try.underlying116
abbrev U117 := @Try.underlying117
abbrev U118 := @Try.underlying118
abbrev U128 := @Try.underlying128
abbrev U131 := @Try.underlying131
abbrev U133 := @Try.underlying133
abbrev U149 := @Try.underlying149
abbrev U158 := @Try.underlying158
abbrev U163 := @Try.underlying163
abbrev U165 := @Try.underlying165
abbrev U167 := @Try.underlying167
abbrev U22 := @Try.underlying22
abbrev U25 := @Try.underlying25
abbrev U26 := @Try.underlying26
abbrev U3 := @Try.underlying3
abbrev U30 := @Try.underlying30
abbrev U38 := @Try.underlying38
abbrev U4 := @Try.underlying4
abbrev U43 := @Try.underlying43
abbrev U5 := @Try.underlying5
abbrev U62 := @Try.underlying62
abbrev U78 := @Try.underlying78
abbrev U9 := @Try.underlying9
abbrev U91 := @Try.underlying91
theorem nfs : false = false → 1 = 1 := fun _ => rfl
end Go.Proofs.Ytfhdclhbdmhnmaa
