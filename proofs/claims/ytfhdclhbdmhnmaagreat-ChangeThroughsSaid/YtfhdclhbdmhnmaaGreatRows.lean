/-
  No cell of these rows narrows 'for every input' (looked for: loops, veiled, ifaces, maps, wideKeys, modest, calm, conditions, laid).
  DERIVED. THE GIVEN ROWS OF THIS SEAT. 6 by the template 'for every input the law returns true; each argument reads behind the call as it read before'; 0 by the template 'total and deterministic' (their statements: YtfhdclhbdmhnmaaGreatTotals.lean).
  GIVEN WITH THE SEED: the statements are not yours to turn. If you find one false, say at which input.
  Laid BY PROGRAM, IN A SANDBOX (cutbox-rows.mjs): the forced cells as the released guide's own fill.sh prints them over the translation 7299fc85016a8d86… (all of the seat's roots in one cut). By AI agents, Wed Nov 11 2026. No macro, syntax, notation, axiom, sorry.
-/
import Derived.Test.YtfhdclhbdmhnmaaGreatChecked
import GoSem.Claim
import GoSem.ClaimJoined
import GoSem.ClaimMapViews
import Derived.JoinedTies
import Derived.KernelRfl
namespace Go.Proofs.YtfhdclhbdmhnmaaGreat
/- THE CELL 'sum', in the pinned program and in every row, IS THE sha256 OF THE DUMP (.gsa) THAT YtfhdclhbdmhnmaaGreatProg.lean LOADS. Nothing in Lean hashes anything: it is a label: what it is worth is what the hold of that sum in a sandbox is worth. -/
noncomputable def Tryz.pinned : Pinned := { name := "ytfhdclhbdmhnmaagreat", sum := "7299fc85016a8d86a53ed9e63f4499b7a5b43e09d7697d784ff7e55d62f70bbf", checked := Tryz.checked }
namespace Rows
def none {H : Type} : Left H := { results := [], args := [] }

/-- 'galloonlaw04.ChangeFewests': WHATEVER THE INPUT: true; the input reads as it did. -/
def changeFewestsSpec : ChangeSpec := { name := "changeFewests", fn := fun _ => fun
  | [d1, d2] => { results := [.lit (.bool true)], args := [d1, d2] }
  | _ => none }
def changeFewestsRow : OpenClaim := { program := "ytfhdclhbdmhnmaagreat", sum := "7299fc85016a8d86a53ed9e63f4499b7a5b43e09d7697d784ff7e55d62f70bbf", func := "galloon/galloonlaw04.ChangeFewests", spec := "changeFewests", unfollowed := true, recurses := true, plainKeys := false, leaving := true, apart := false }
def ChangeFewestsSaid : Prop := changeFewestsRow.holds Tryz.pinned (OpenSpec.ofChange changeFewestsSpec)

/-- ITS FALSE NEIGHBOUR: 'it returns false'. Refute it at one input. -/
def changeFewestsWrong : ChangeSpec := { name := "changeFewests", fn := fun _ => fun
  | [d1, d2] => { results := [.lit (.bool false)], args := [d1, d2] }
  | _ => none }
def ChangeFewestsWrongFalsely : Prop := changeFewestsRow.holds Tryz.pinned (OpenSpec.ofChange changeFewestsWrong)

/-- 'galloonlaw04.ChangeWearings': WHATEVER THE INPUT: true; the input reads as it did. -/
def changeWearingsSpec : ChangeSpec := { name := "changeWearings", fn := fun _ => fun
  | [d1, d2, d3, d4] => { results := [.lit (.bool true)], args := [d1, d2, d3, d4] }
  | _ => none }
def changeWearingsRow : OpenClaim := { program := "ytfhdclhbdmhnmaagreat", sum := "7299fc85016a8d86a53ed9e63f4499b7a5b43e09d7697d784ff7e55d62f70bbf", func := "galloon/galloonlaw04.ChangeWearings", spec := "changeWearings", unfollowed := true, recurses := true, plainKeys := false, leaving := true, apart := false }
def ChangeWearingsSaid : Prop := changeWearingsRow.holds Tryz.pinned (OpenSpec.ofChange changeWearingsSpec)

/-- ITS FALSE NEIGHBOUR: 'it returns false'. Refute it at one input. -/
def changeWearingsWrong : ChangeSpec := { name := "changeWearings", fn := fun _ => fun
  | [d1, d2, d3, d4] => { results := [.lit (.bool false)], args := [d1, d2, d3, d4] }
  | _ => none }
def ChangeWearingsWrongFalsely : Prop := changeWearingsRow.holds Tryz.pinned (OpenSpec.ofChange changeWearingsWrong)

/-- 'galloonlaw04.ChangeThroughs': WHATEVER THE INPUT: true; the input reads as it did. -/
def changeThroughsSpec : ChangeSpec := { name := "changeThroughs", fn := fun _ => fun
  | [d1, d2, d3] => { results := [.lit (.bool true)], args := [d1, d2, d3] }
  | _ => none }
def changeThroughsRow : OpenClaim := { program := "ytfhdclhbdmhnmaagreat", sum := "7299fc85016a8d86a53ed9e63f4499b7a5b43e09d7697d784ff7e55d62f70bbf", func := "galloon/galloonlaw04.ChangeThroughs", spec := "changeThroughs", unfollowed := true, recurses := true, plainKeys := false, leaving := true, apart := false }
def ChangeThroughsSaid : Prop := changeThroughsRow.holds Tryz.pinned (OpenSpec.ofChange changeThroughsSpec)

/-- ITS FALSE NEIGHBOUR: 'it returns false'. Refute it at one input. -/
def changeThroughsWrong : ChangeSpec := { name := "changeThroughs", fn := fun _ => fun
  | [d1, d2, d3] => { results := [.lit (.bool false)], args := [d1, d2, d3] }
  | _ => none }
def ChangeThroughsWrongFalsely : Prop := changeThroughsRow.holds Tryz.pinned (OpenSpec.ofChange changeThroughsWrong)

/-- 'galloonlaw04.ChangeBegins': WHATEVER THE INPUT: true; the input reads as it did. -/
def changeBeginsSpec : ChangeSpec := { name := "changeBegins", fn := fun _ => fun
  | [d1, d2, d3] => { results := [.lit (.bool true)], args := [d1, d2, d3] }
  | _ => none }
def changeBeginsRow : OpenClaim := { program := "ytfhdclhbdmhnmaagreat", sum := "7299fc85016a8d86a53ed9e63f4499b7a5b43e09d7697d784ff7e55d62f70bbf", func := "galloon/galloonlaw04.ChangeBegins", spec := "changeBegins", unfollowed := true, recurses := true, plainKeys := false, leaving := true, apart := false }
def ChangeBeginsSaid : Prop := changeBeginsRow.holds Tryz.pinned (OpenSpec.ofChange changeBeginsSpec)

/-- ITS FALSE NEIGHBOUR: 'it returns false'. Refute it at one input. -/
def changeBeginsWrong : ChangeSpec := { name := "changeBegins", fn := fun _ => fun
  | [d1, d2, d3] => { results := [.lit (.bool false)], args := [d1, d2, d3] }
  | _ => none }
def ChangeBeginsWrongFalsely : Prop := changeBeginsRow.holds Tryz.pinned (OpenSpec.ofChange changeBeginsWrong)

/-- 'galloonlaw04.ChangeSpares': WHATEVER THE INPUT: true; the input reads as it did. -/
def changeSparesSpec : ChangeSpec := { name := "changeSpares", fn := fun _ => fun
  | [d1, d2, d3] => { results := [.lit (.bool true)], args := [d1, d2, d3] }
  | _ => none }
def changeSparesRow : OpenClaim := { program := "ytfhdclhbdmhnmaagreat", sum := "7299fc85016a8d86a53ed9e63f4499b7a5b43e09d7697d784ff7e55d62f70bbf", func := "galloon/galloonlaw04.ChangeSpares", spec := "changeSpares", unfollowed := true, recurses := true, plainKeys := false, leaving := true, apart := false }
def ChangeSparesSaid : Prop := changeSparesRow.holds Tryz.pinned (OpenSpec.ofChange changeSparesSpec)

/-- ITS FALSE NEIGHBOUR: 'it returns false'. Refute it at one input. -/
def changeSparesWrong : ChangeSpec := { name := "changeSpares", fn := fun _ => fun
  | [d1, d2, d3] => { results := [.lit (.bool false)], args := [d1, d2, d3] }
  | _ => none }
def ChangeSparesWrongFalsely : Prop := changeSparesRow.holds Tryz.pinned (OpenSpec.ofChange changeSparesWrong)

/-- 'galloonlaw04.ChangeLates': WHATEVER THE INPUT: true; the input reads as it did. -/
def changeLatesSpec : ChangeSpec := { name := "changeLates", fn := fun _ => fun
  | [d1, d2, d3] => { results := [.lit (.bool true)], args := [d1, d2, d3] }
  | _ => none }
def changeLatesRow : OpenClaim := { program := "ytfhdclhbdmhnmaagreat", sum := "7299fc85016a8d86a53ed9e63f4499b7a5b43e09d7697d784ff7e55d62f70bbf", func := "galloon/galloonlaw04.ChangeLates", spec := "changeLates", unfollowed := true, recurses := true, plainKeys := false, leaving := true, apart := false }
def ChangeLatesSaid : Prop := changeLatesRow.holds Tryz.pinned (OpenSpec.ofChange changeLatesSpec)

/-- ITS FALSE NEIGHBOUR: 'it returns false'. Refute it at one input. -/
def changeLatesWrong : ChangeSpec := { name := "changeLates", fn := fun _ => fun
  | [d1, d2, d3] => { results := [.lit (.bool false)], args := [d1, d2, d3] }
  | _ => none }
def ChangeLatesWrongFalsely : Prop := changeLatesRow.holds Tryz.pinned (OpenSpec.ofChange changeLatesWrong)

/- THE SECOND FORM. 'bulk': how many values and letters a reading holds, each counted each time it is reached (what is shared counts as often as it is met; a slice's spare places count too). A statement '..UptoSaid' is the law's where the arguments, and the package variables that the reading takes, are together of bulk at most 1048576: NARROWER than '..Said'. Prove '..Said' where nothing that the law and all that it calls make is longer than what came in: it says more and counts as full. Else prove '..UptoSaid'. A law counts once. -/
mutual
def uptoBulk {H : Type} : DataW H → Nat
  | .lit (.string bytes) => bytes.length + 1
  | .lit _ => 1
  | .nil => 1
  | .ptr d => uptoBulk d + 1
  | .slice elems spare => uptoBulkAll elems + uptoBulkAll spare + 1
  | .agg parts => uptoBulkAll parts + 1
  | .iface _ d => uptoBulk d + 1
  | .map entries => uptoBulkEntries entries + 1
  | .held _ => 1
def uptoBulkAll {H : Type} : List (DataW H) → Nat
  | [] => 0
  | d :: r => uptoBulk d + uptoBulkAll r
def uptoBulkEntries {H : Type} : List (Lit × DataW H) → Nat
  | [] => 0
  | x :: r => uptoBulkEntry x + uptoBulkEntries r
def uptoBulkEntry {H : Type} : Lit × DataW H → Nat
  | (.string bytes, d) => bytes.length + uptoBulk d + 1
  | (_, d) => uptoBulk d + 1
 end
def uptoSmall : (H : Type) → List (DataW H) → Bool := fun _ ds => decide (uptoBulkAll ds ≤ 1048576)
def OpenSpec.upto (s : _root_.Go.ChangeSpec) : _root_.Go.OpenSpec := { _root_.Go.OpenSpec.ofChange s with cond := some uptoSmall }

/-- 'galloonlaw04.ChangeFewests', WHERE WHAT IT READS IS OF BULK AT MOST 1048576: true; the input reads as it did. -/
def changeFewestsUptoRow : OpenClaim := { program := "ytfhdclhbdmhnmaagreat", sum := "7299fc85016a8d86a53ed9e63f4499b7a5b43e09d7697d784ff7e55d62f70bbf", func := "galloon/galloonlaw04.ChangeFewests", spec := "changeFewests", unfollowed := true, recurses := true, plainKeys := false, leaving := true, apart := false, narrowed := true }
def ChangeFewestsUptoSaid : Prop := changeFewestsUptoRow.holds Tryz.pinned (OpenSpec.upto changeFewestsSpec)

/-- 'galloonlaw04.ChangeWearings', WHERE WHAT IT READS IS OF BULK AT MOST 1048576: true; the input reads as it did. -/
def changeWearingsUptoRow : OpenClaim := { program := "ytfhdclhbdmhnmaagreat", sum := "7299fc85016a8d86a53ed9e63f4499b7a5b43e09d7697d784ff7e55d62f70bbf", func := "galloon/galloonlaw04.ChangeWearings", spec := "changeWearings", unfollowed := true, recurses := true, plainKeys := false, leaving := true, apart := false, narrowed := true }
def ChangeWearingsUptoSaid : Prop := changeWearingsUptoRow.holds Tryz.pinned (OpenSpec.upto changeWearingsSpec)

/-- 'galloonlaw04.ChangeThroughs', WHERE WHAT IT READS IS OF BULK AT MOST 1048576: true; the input reads as it did. -/
def changeThroughsUptoRow : OpenClaim := { program := "ytfhdclhbdmhnmaagreat", sum := "7299fc85016a8d86a53ed9e63f4499b7a5b43e09d7697d784ff7e55d62f70bbf", func := "galloon/galloonlaw04.ChangeThroughs", spec := "changeThroughs", unfollowed := true, recurses := true, plainKeys := false, leaving := true, apart := false, narrowed := true }
def ChangeThroughsUptoSaid : Prop := changeThroughsUptoRow.holds Tryz.pinned (OpenSpec.upto changeThroughsSpec)

/-- 'galloonlaw04.ChangeBegins', WHERE WHAT IT READS IS OF BULK AT MOST 1048576: true; the input reads as it did. -/
def changeBeginsUptoRow : OpenClaim := { program := "ytfhdclhbdmhnmaagreat", sum := "7299fc85016a8d86a53ed9e63f4499b7a5b43e09d7697d784ff7e55d62f70bbf", func := "galloon/galloonlaw04.ChangeBegins", spec := "changeBegins", unfollowed := true, recurses := true, plainKeys := false, leaving := true, apart := false, narrowed := true }
def ChangeBeginsUptoSaid : Prop := changeBeginsUptoRow.holds Tryz.pinned (OpenSpec.upto changeBeginsSpec)

/-- 'galloonlaw04.ChangeSpares', WHERE WHAT IT READS IS OF BULK AT MOST 1048576: true; the input reads as it did. -/
def changeSparesUptoRow : OpenClaim := { program := "ytfhdclhbdmhnmaagreat", sum := "7299fc85016a8d86a53ed9e63f4499b7a5b43e09d7697d784ff7e55d62f70bbf", func := "galloon/galloonlaw04.ChangeSpares", spec := "changeSpares", unfollowed := true, recurses := true, plainKeys := false, leaving := true, apart := false, narrowed := true }
def ChangeSparesUptoSaid : Prop := changeSparesUptoRow.holds Tryz.pinned (OpenSpec.upto changeSparesSpec)

/-- 'galloonlaw04.ChangeLates', WHERE WHAT IT READS IS OF BULK AT MOST 1048576: true; the input reads as it did. -/
def changeLatesUptoRow : OpenClaim := { program := "ytfhdclhbdmhnmaagreat", sum := "7299fc85016a8d86a53ed9e63f4499b7a5b43e09d7697d784ff7e55d62f70bbf", func := "galloon/galloonlaw04.ChangeLates", spec := "changeLates", unfollowed := true, recurses := true, plainKeys := false, leaving := true, apart := false, narrowed := true }
def ChangeLatesUptoSaid : Prop := changeLatesUptoRow.holds Tryz.pinned (OpenSpec.upto changeLatesSpec)

end Rows
end Go.Proofs.YtfhdclhbdmhnmaaGreat
