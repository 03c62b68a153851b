/-
  No cell of these rows narrows 'for every input' (looked for: loops, veiled, ifaces, maps, wideKeys, modest, calm, conditions, laid).
  DERIVED. THE GIVEN ROWS OF THIS SEAT. 14 by the template 'for every input the law returns true; each argument reads behind the call as it read before'; 0 by the template 'total and deterministic' (their statements: YtfhdclhbdmhnmaaTotals.lean).
  GIVEN WITH THE SEED: the statements are not yours to turn. If you find one false, say at which input.
  Laid BY PROGRAM, IN A SANDBOX (cutbox-rows.mjs): the forced cells as the released guide's own fill.sh prints them over the translation 36451410c4a7585b… (all of the seat's roots in one cut). By AI agents, Wed Nov 11 2026. No macro, syntax, notation, axiom, sorry.
-/
import Derived.Test.YtfhdclhbdmhnmaaChecked
import GoSem.Claim
import GoSem.ClaimJoined
import GoSem.ClaimMapViews
import Derived.JoinedTies
import Derived.KernelRfl
namespace Go.Proofs.Ytfhdclhbdmhnmaa
/- THE CELL 'sum', in the pinned program and in every row, IS THE sha256 OF THE DUMP (.gsa) THAT YtfhdclhbdmhnmaaProg.lean LOADS. Nothing in Lean hashes anything: it is a label: what it is worth is what the hold of that sum in a sandbox is worth. -/
noncomputable def Try.pinned : Pinned := { name := "ytfhdclhbdmhnmaa", sum := "36451410c4a7585b43045ac86622b2ca9e50b57d3ccd6523f84cae6764c898c2", checked := Try.checked }
namespace Rows
def none {H : Type} : Left H := { results := [], args := [] }

/-- 'galloonlaw04.ChangeLate': WHATEVER THE INPUT: true; the input reads as it did. -/
def changeLateSpec : ChangeSpec := { name := "changeLate", fn := fun _ => fun
  | [d] => { results := [.lit (.bool true)], args := [d] }
  | _ => none }
def changeLateRow : OpenClaim := { program := "ytfhdclhbdmhnmaa", sum := "36451410c4a7585b43045ac86622b2ca9e50b57d3ccd6523f84cae6764c898c2", func := "galloon/galloonlaw04.ChangeLate", spec := "changeLate", unfollowed := true, recurses := true, plainKeys := false, leaving := true, apart := false }
def ChangeLateSaid : Prop := changeLateRow.holds Try.pinned (OpenSpec.ofChange changeLateSpec)

/-- ITS FALSE NEIGHBOUR: 'it returns false'. Refute it at one input. -/
def changeLateWrong : ChangeSpec := { name := "changeLate", fn := fun _ => fun
  | [d] => { results := [.lit (.bool false)], args := [d] }
  | _ => none }
def ChangeLateWrongFalsely : Prop := changeLateRow.holds Try.pinned (OpenSpec.ofChange changeLateWrong)

/-- 'galloonlaw04.ChangeSpare': WHATEVER THE INPUT: true; the input reads as it did. -/
def changeSpareSpec : ChangeSpec := { name := "changeSpare", fn := fun _ => fun
  | [d] => { results := [.lit (.bool true)], args := [d] }
  | _ => none }
def changeSpareRow : OpenClaim := { program := "ytfhdclhbdmhnmaa", sum := "36451410c4a7585b43045ac86622b2ca9e50b57d3ccd6523f84cae6764c898c2", func := "galloon/galloonlaw04.ChangeSpare", spec := "changeSpare", unfollowed := true, recurses := true, plainKeys := false, leaving := true, apart := false }
def ChangeSpareSaid : Prop := changeSpareRow.holds Try.pinned (OpenSpec.ofChange changeSpareSpec)

/-- ITS FALSE NEIGHBOUR: 'it returns false'. Refute it at one input. -/
def changeSpareWrong : ChangeSpec := { name := "changeSpare", fn := fun _ => fun
  | [d] => { results := [.lit (.bool false)], args := [d] }
  | _ => none }
def ChangeSpareWrongFalsely : Prop := changeSpareRow.holds Try.pinned (OpenSpec.ofChange changeSpareWrong)

/-- 'galloonlaw04.ChangeLearn': WHATEVER THE INPUT: true; the input reads as it did. -/
def changeLearnSpec : ChangeSpec := { name := "changeLearn", fn := fun _ => fun
  | [d] => { results := [.lit (.bool true)], args := [d] }
  | _ => none }
def changeLearnRow : OpenClaim := { program := "ytfhdclhbdmhnmaa", sum := "36451410c4a7585b43045ac86622b2ca9e50b57d3ccd6523f84cae6764c898c2", func := "galloon/galloonlaw04.ChangeLearn", spec := "changeLearn", unfollowed := true, recurses := true, plainKeys := false, leaving := true, apart := false }
def ChangeLearnSaid : Prop := changeLearnRow.holds Try.pinned (OpenSpec.ofChange changeLearnSpec)

/-- ITS FALSE NEIGHBOUR: 'it returns false'. Refute it at one input. -/
def changeLearnWrong : ChangeSpec := { name := "changeLearn", fn := fun _ => fun
  | [d] => { results := [.lit (.bool false)], args := [d] }
  | _ => none }
def ChangeLearnWrongFalsely : Prop := changeLearnRow.holds Try.pinned (OpenSpec.ofChange changeLearnWrong)

/-- 'galloonlaw04.ChangeThrough': WHATEVER THE INPUT: true; the input reads as it did. -/
def changeThroughSpec : ChangeSpec := { name := "changeThrough", fn := fun _ => fun
  | [d] => { results := [.lit (.bool true)], args := [d] }
  | _ => none }
def changeThroughRow : OpenClaim := { program := "ytfhdclhbdmhnmaa", sum := "36451410c4a7585b43045ac86622b2ca9e50b57d3ccd6523f84cae6764c898c2", func := "galloon/galloonlaw04.ChangeThrough", spec := "changeThrough", unfollowed := true, recurses := true, plainKeys := false, leaving := true, apart := false }
def ChangeThroughSaid : Prop := changeThroughRow.holds Try.pinned (OpenSpec.ofChange changeThroughSpec)

/-- ITS FALSE NEIGHBOUR: 'it returns false'. Refute it at one input. -/
def changeThroughWrong : ChangeSpec := { name := "changeThrough", fn := fun _ => fun
  | [d] => { results := [.lit (.bool false)], args := [d] }
  | _ => none }
def ChangeThroughWrongFalsely : Prop := changeThroughRow.holds Try.pinned (OpenSpec.ofChange changeThroughWrong)

/-- 'galloonlaw04.ChangeHands': WHATEVER THE INPUT: true; the input reads as it did. -/
def changeHandsSpec : ChangeSpec := { name := "changeHands", fn := fun _ => fun
  | [d] => { results := [.lit (.bool true)], args := [d] }
  | _ => none }
def changeHandsRow : OpenClaim := { program := "ytfhdclhbdmhnmaa", sum := "36451410c4a7585b43045ac86622b2ca9e50b57d3ccd6523f84cae6764c898c2", func := "galloon/galloonlaw04.ChangeHands", spec := "changeHands", unfollowed := true, recurses := true, plainKeys := false, leaving := true, apart := false }
def ChangeHandsSaid : Prop := changeHandsRow.holds Try.pinned (OpenSpec.ofChange changeHandsSpec)

/-- ITS FALSE NEIGHBOUR: 'it returns false'. Refute it at one input. -/
def changeHandsWrong : ChangeSpec := { name := "changeHands", fn := fun _ => fun
  | [d] => { results := [.lit (.bool false)], args := [d] }
  | _ => none }
def ChangeHandsWrongFalsely : Prop := changeHandsRow.holds Try.pinned (OpenSpec.ofChange changeHandsWrong)

/-- 'galloonlaw04.ChangeTasks': WHATEVER THE INPUT: true; the input reads as it did. -/
def changeTasksSpec : ChangeSpec := { name := "changeTasks", fn := fun _ => fun
  | [d] => { results := [.lit (.bool true)], args := [d] }
  | _ => none }
def changeTasksRow : OpenClaim := { program := "ytfhdclhbdmhnmaa", sum := "36451410c4a7585b43045ac86622b2ca9e50b57d3ccd6523f84cae6764c898c2", func := "galloon/galloonlaw04.ChangeTasks", spec := "changeTasks", unfollowed := true, recurses := true, plainKeys := false, leaving := true, apart := false }
def ChangeTasksSaid : Prop := changeTasksRow.holds Try.pinned (OpenSpec.ofChange changeTasksSpec)

/-- ITS FALSE NEIGHBOUR: 'it returns false'. Refute it at one input. -/
def changeTasksWrong : ChangeSpec := { name := "changeTasks", fn := fun _ => fun
  | [d] => { results := [.lit (.bool false)], args := [d] }
  | _ => none }
def ChangeTasksWrongFalsely : Prop := changeTasksRow.holds Try.pinned (OpenSpec.ofChange changeTasksWrong)

/-- 'galloonlaw04.ChangeBack': WHATEVER THE INPUT: true; the input reads as it did. -/
def changeBackSpec : ChangeSpec := { name := "changeBack", fn := fun _ => fun
  | [d] => { results := [.lit (.bool true)], args := [d] }
  | _ => none }
def changeBackRow : OpenClaim := { program := "ytfhdclhbdmhnmaa", sum := "36451410c4a7585b43045ac86622b2ca9e50b57d3ccd6523f84cae6764c898c2", func := "galloon/galloonlaw04.ChangeBack", spec := "changeBack", unfollowed := true, recurses := true, plainKeys := false, leaving := true, apart := false }
def ChangeBackSaid : Prop := changeBackRow.holds Try.pinned (OpenSpec.ofChange changeBackSpec)

/-- ITS FALSE NEIGHBOUR: 'it returns false'. Refute it at one input. -/
def changeBackWrong : ChangeSpec := { name := "changeBack", fn := fun _ => fun
  | [d] => { results := [.lit (.bool false)], args := [d] }
  | _ => none }
def ChangeBackWrongFalsely : Prop := changeBackRow.holds Try.pinned (OpenSpec.ofChange changeBackWrong)

/-- 'galloonlaw04.ChangeUnder': WHATEVER THE INPUT: true; the input reads as it did. -/
def changeUnderSpec : ChangeSpec := { name := "changeUnder", fn := fun _ => fun
  | [d] => { results := [.lit (.bool true)], args := [d] }
  | _ => none }
def changeUnderRow : OpenClaim := { program := "ytfhdclhbdmhnmaa", sum := "36451410c4a7585b43045ac86622b2ca9e50b57d3ccd6523f84cae6764c898c2", func := "galloon/galloonlaw04.ChangeUnder", spec := "changeUnder", unfollowed := true, recurses := true, plainKeys := false, leaving := true, apart := false }
def ChangeUnderSaid : Prop := changeUnderRow.holds Try.pinned (OpenSpec.ofChange changeUnderSpec)

/-- ITS FALSE NEIGHBOUR: 'it returns false'. Refute it at one input. -/
def changeUnderWrong : ChangeSpec := { name := "changeUnder", fn := fun _ => fun
  | [d] => { results := [.lit (.bool false)], args := [d] }
  | _ => none }
def ChangeUnderWrongFalsely : Prop := changeUnderRow.holds Try.pinned (OpenSpec.ofChange changeUnderWrong)

/-- 'galloonlaw04.ChangeFewest': WHATEVER THE INPUT: true; the input reads as it did. -/
def changeFewestSpec : ChangeSpec := { name := "changeFewest", fn := fun _ => fun
  | [d] => { results := [.lit (.bool true)], args := [d] }
  | _ => none }
def changeFewestRow : OpenClaim := { program := "ytfhdclhbdmhnmaa", sum := "36451410c4a7585b43045ac86622b2ca9e50b57d3ccd6523f84cae6764c898c2", func := "galloon/galloonlaw04.ChangeFewest", spec := "changeFewest", unfollowed := true, recurses := true, plainKeys := false, leaving := true, apart := false }
def ChangeFewestSaid : Prop := changeFewestRow.holds Try.pinned (OpenSpec.ofChange changeFewestSpec)

/-- ITS FALSE NEIGHBOUR: 'it returns false'. Refute it at one input. -/
def changeFewestWrong : ChangeSpec := { name := "changeFewest", fn := fun _ => fun
  | [d] => { results := [.lit (.bool false)], args := [d] }
  | _ => none }
def ChangeFewestWrongFalsely : Prop := changeFewestRow.holds Try.pinned (OpenSpec.ofChange changeFewestWrong)

/-- 'galloonlaw04.ChangeChecks': WHATEVER THE INPUT: true; the input reads as it did. -/
def changeChecksSpec : ChangeSpec := { name := "changeChecks", fn := fun _ => fun
  | [d1, d2] => { results := [.lit (.bool true)], args := [d1, d2] }
  | _ => none }
def changeChecksRow : OpenClaim := { program := "ytfhdclhbdmhnmaa", sum := "36451410c4a7585b43045ac86622b2ca9e50b57d3ccd6523f84cae6764c898c2", func := "galloon/galloonlaw04.ChangeChecks", spec := "changeChecks", unfollowed := true, recurses := true, plainKeys := false, leaving := true, apart := false }
def ChangeChecksSaid : Prop := changeChecksRow.holds Try.pinned (OpenSpec.ofChange changeChecksSpec)

/-- ITS FALSE NEIGHBOUR: 'it returns false'. Refute it at one input. -/
def changeChecksWrong : ChangeSpec := { name := "changeChecks", fn := fun _ => fun
  | [d1, d2] => { results := [.lit (.bool false)], args := [d1, d2] }
  | _ => none }
def ChangeChecksWrongFalsely : Prop := changeChecksRow.holds Try.pinned (OpenSpec.ofChange changeChecksWrong)

/-- 'galloonlaw04.ChangeNeedless': WHATEVER THE INPUT: true; the input reads as it did. -/
def changeNeedlessSpec : ChangeSpec := { name := "changeNeedless", fn := fun _ => fun
  | [d] => { results := [.lit (.bool true)], args := [d] }
  | _ => none }
def changeNeedlessRow : OpenClaim := { program := "ytfhdclhbdmhnmaa", sum := "36451410c4a7585b43045ac86622b2ca9e50b57d3ccd6523f84cae6764c898c2", func := "galloon/galloonlaw04.ChangeNeedless", spec := "changeNeedless", unfollowed := true, recurses := true, plainKeys := false, leaving := true, apart := false }
def ChangeNeedlessSaid : Prop := changeNeedlessRow.holds Try.pinned (OpenSpec.ofChange changeNeedlessSpec)

/-- ITS FALSE NEIGHBOUR: 'it returns false'. Refute it at one input. -/
def changeNeedlessWrong : ChangeSpec := { name := "changeNeedless", fn := fun _ => fun
  | [d] => { results := [.lit (.bool false)], args := [d] }
  | _ => none }
def ChangeNeedlessWrongFalsely : Prop := changeNeedlessRow.holds Try.pinned (OpenSpec.ofChange changeNeedlessWrong)

/-- 'galloonlaw04.ChangeBegun': WHATEVER THE INPUT: true; the input reads as it did. -/
def changeBegunSpec : ChangeSpec := { name := "changeBegun", fn := fun _ => fun
  | [d] => { results := [.lit (.bool true)], args := [d] }
  | _ => none }
def changeBegunRow : OpenClaim := { program := "ytfhdclhbdmhnmaa", sum := "36451410c4a7585b43045ac86622b2ca9e50b57d3ccd6523f84cae6764c898c2", func := "galloon/galloonlaw04.ChangeBegun", spec := "changeBegun", unfollowed := true, recurses := true, plainKeys := false, leaving := true, apart := false }
def ChangeBegunSaid : Prop := changeBegunRow.holds Try.pinned (OpenSpec.ofChange changeBegunSpec)

/-- ITS FALSE NEIGHBOUR: 'it returns false'. Refute it at one input. -/
def changeBegunWrong : ChangeSpec := { name := "changeBegun", fn := fun _ => fun
  | [d] => { results := [.lit (.bool false)], args := [d] }
  | _ => none }
def ChangeBegunWrongFalsely : Prop := changeBegunRow.holds Try.pinned (OpenSpec.ofChange changeBegunWrong)

/-- 'galloonlaw04.ChangeGives': WHATEVER THE INPUT: true; the input reads as it did. -/
def changeGivesSpec : ChangeSpec := { name := "changeGives", fn := fun _ => fun
  | [d] => { results := [.lit (.bool true)], args := [d] }
  | _ => none }
def changeGivesRow : OpenClaim := { program := "ytfhdclhbdmhnmaa", sum := "36451410c4a7585b43045ac86622b2ca9e50b57d3ccd6523f84cae6764c898c2", func := "galloon/galloonlaw04.ChangeGives", spec := "changeGives", unfollowed := true, recurses := true, plainKeys := false, leaving := true, apart := false }
def ChangeGivesSaid : Prop := changeGivesRow.holds Try.pinned (OpenSpec.ofChange changeGivesSpec)

/-- ITS FALSE NEIGHBOUR: 'it returns false'. Refute it at one input. -/
def changeGivesWrong : ChangeSpec := { name := "changeGives", fn := fun _ => fun
  | [d] => { results := [.lit (.bool false)], args := [d] }
  | _ => none }
def ChangeGivesWrongFalsely : Prop := changeGivesRow.holds Try.pinned (OpenSpec.ofChange changeGivesWrong)

/-- 'galloonlaw04.ChangeKnown': WHATEVER THE INPUT: true; the input reads as it did. -/
def changeKnownSpec : ChangeSpec := { name := "changeKnown", fn := fun _ => fun
  | [] => { results := [.lit (.bool true)], args := [] }
  | _ => none }
def changeKnownRow : OpenClaim := { program := "ytfhdclhbdmhnmaa", sum := "36451410c4a7585b43045ac86622b2ca9e50b57d3ccd6523f84cae6764c898c2", func := "galloon/galloonlaw04.ChangeKnown", spec := "changeKnown", unfollowed := true, recurses := true, plainKeys := false, leaving := true, apart := false }
def ChangeKnownSaid : Prop := changeKnownRow.holds Try.pinned (OpenSpec.ofChange changeKnownSpec)

/-- ITS FALSE NEIGHBOUR: 'it returns false'. Refute it at one input. -/
def changeKnownWrong : ChangeSpec := { name := "changeKnown", fn := fun _ => fun
  | [] => { results := [.lit (.bool false)], args := [] }
  | _ => none }
def ChangeKnownWrongFalsely : Prop := changeKnownRow.holds Try.pinned (OpenSpec.ofChange changeKnownWrong)

/- THE SECOND FORM. 'bulk': how many values and letters a reading holds, each counted each time it is reached (what is shared counts as often as it is met; a slice's spare places count too). A statement '..UptoSaid' is the law's where the arguments, and the package variables that the reading takes, are together of bulk at most 1048576: NARROWER than '..Said'. Prove '..Said' where nothing that the law and all that it calls make is longer than what came in: it says more and counts as full. Else prove '..UptoSaid'. A law counts once. -/
mutual
def uptoBulk {H : Type} : DataW H → Nat
  | .lit (.string bytes) => bytes.length + 1
  | .lit _ => 1
  | .nil => 1
  | .ptr d => uptoBulk d + 1
  | .slice elems spare => uptoBulkAll elems + uptoBulkAll spare + 1
  | .agg parts => uptoBulkAll parts + 1
  | .iface _ d => uptoBulk d + 1
  | .map entries => uptoBulkEntries entries + 1
  | .held _ => 1
def uptoBulkAll {H : Type} : List (DataW H) → Nat
  | [] => 0
  | d :: r => uptoBulk d + uptoBulkAll r
def uptoBulkEntries {H : Type} : List (Lit × DataW H) → Nat
  | [] => 0
  | x :: r => uptoBulkEntry x + uptoBulkEntries r
def uptoBulkEntry {H : Type} : Lit × DataW H → Nat
  | (.string bytes, d) => bytes.length + uptoBulk d + 1
  | (_, d) => uptoBulk d + 1
 end
def uptoSmall : (H : Type) → List (DataW H) → Bool := fun _ ds => decide (uptoBulkAll ds ≤ 1048576)
def OpenSpec.upto (s : _root_.Go.ChangeSpec) : _root_.Go.OpenSpec := { _root_.Go.OpenSpec.ofChange s with cond := some uptoSmall }

/-- 'galloonlaw04.ChangeLate', WHERE WHAT IT READS IS OF BULK AT MOST 1048576: true; the input reads as it did. -/
def changeLateUptoRow : OpenClaim := { program := "ytfhdclhbdmhnmaa", sum := "36451410c4a7585b43045ac86622b2ca9e50b57d3ccd6523f84cae6764c898c2", func := "galloon/galloonlaw04.ChangeLate", spec := "changeLate", unfollowed := true, recurses := true, plainKeys := false, leaving := true, apart := false, narrowed := true }
def ChangeLateUptoSaid : Prop := changeLateUptoRow.holds Try.pinned (OpenSpec.upto changeLateSpec)

/-- 'galloonlaw04.ChangeSpare', WHERE WHAT IT READS IS OF BULK AT MOST 1048576: true; the input reads as it did. -/
def changeSpareUptoRow : OpenClaim := { program := "ytfhdclhbdmhnmaa", sum := "36451410c4a7585b43045ac86622b2ca9e50b57d3ccd6523f84cae6764c898c2", func := "galloon/galloonlaw04.ChangeSpare", spec := "changeSpare", unfollowed := true, recurses := true, plainKeys := false, leaving := true, apart := false, narrowed := true }
def ChangeSpareUptoSaid : Prop := changeSpareUptoRow.holds Try.pinned (OpenSpec.upto changeSpareSpec)

/-- 'galloonlaw04.ChangeLearn', WHERE WHAT IT READS IS OF BULK AT MOST 1048576: true; the input reads as it did. -/
def changeLearnUptoRow : OpenClaim := { program := "ytfhdclhbdmhnmaa", sum := "36451410c4a7585b43045ac86622b2ca9e50b57d3ccd6523f84cae6764c898c2", func := "galloon/galloonlaw04.ChangeLearn", spec := "changeLearn", unfollowed := true, recurses := true, plainKeys := false, leaving := true, apart := false, narrowed := true }
def ChangeLearnUptoSaid : Prop := changeLearnUptoRow.holds Try.pinned (OpenSpec.upto changeLearnSpec)

/-- 'galloonlaw04.ChangeThrough', WHERE WHAT IT READS IS OF BULK AT MOST 1048576: true; the input reads as it did. -/
def changeThroughUptoRow : OpenClaim := { program := "ytfhdclhbdmhnmaa", sum := "36451410c4a7585b43045ac86622b2ca9e50b57d3ccd6523f84cae6764c898c2", func := "galloon/galloonlaw04.ChangeThrough", spec := "changeThrough", unfollowed := true, recurses := true, plainKeys := false, leaving := true, apart := false, narrowed := true }
def ChangeThroughUptoSaid : Prop := changeThroughUptoRow.holds Try.pinned (OpenSpec.upto changeThroughSpec)

/-- 'galloonlaw04.ChangeHands', WHERE WHAT IT READS IS OF BULK AT MOST 1048576: true; the input reads as it did. -/
def changeHandsUptoRow : OpenClaim := { program := "ytfhdclhbdmhnmaa", sum := "36451410c4a7585b43045ac86622b2ca9e50b57d3ccd6523f84cae6764c898c2", func := "galloon/galloonlaw04.ChangeHands", spec := "changeHands", unfollowed := true, recurses := true, plainKeys := false, leaving := true, apart := false, narrowed := true }
def ChangeHandsUptoSaid : Prop := changeHandsUptoRow.holds Try.pinned (OpenSpec.upto changeHandsSpec)

/-- 'galloonlaw04.ChangeTasks', WHERE WHAT IT READS IS OF BULK AT MOST 1048576: true; the input reads as it did. -/
def changeTasksUptoRow : OpenClaim := { program := "ytfhdclhbdmhnmaa", sum := "36451410c4a7585b43045ac86622b2ca9e50b57d3ccd6523f84cae6764c898c2", func := "galloon/galloonlaw04.ChangeTasks", spec := "changeTasks", unfollowed := true, recurses := true, plainKeys := false, leaving := true, apart := false, narrowed := true }
def ChangeTasksUptoSaid : Prop := changeTasksUptoRow.holds Try.pinned (OpenSpec.upto changeTasksSpec)

/-- 'galloonlaw04.ChangeBack', WHERE WHAT IT READS IS OF BULK AT MOST 1048576: true; the input reads as it did. -/
def changeBackUptoRow : OpenClaim := { program := "ytfhdclhbdmhnmaa", sum := "36451410c4a7585b43045ac86622b2ca9e50b57d3ccd6523f84cae6764c898c2", func := "galloon/galloonlaw04.ChangeBack", spec := "changeBack", unfollowed := true, recurses := true, plainKeys := false, leaving := true, apart := false, narrowed := true }
def ChangeBackUptoSaid : Prop := changeBackUptoRow.holds Try.pinned (OpenSpec.upto changeBackSpec)

/-- 'galloonlaw04.ChangeUnder', WHERE WHAT IT READS IS OF BULK AT MOST 1048576: true; the input reads as it did. -/
def changeUnderUptoRow : OpenClaim := { program := "ytfhdclhbdmhnmaa", sum := "36451410c4a7585b43045ac86622b2ca9e50b57d3ccd6523f84cae6764c898c2", func := "galloon/galloonlaw04.ChangeUnder", spec := "changeUnder", unfollowed := true, recurses := true, plainKeys := false, leaving := true, apart := false, narrowed := true }
def ChangeUnderUptoSaid : Prop := changeUnderUptoRow.holds Try.pinned (OpenSpec.upto changeUnderSpec)

/-- 'galloonlaw04.ChangeFewest', WHERE WHAT IT READS IS OF BULK AT MOST 1048576: true; the input reads as it did. -/
def changeFewestUptoRow : OpenClaim := { program := "ytfhdclhbdmhnmaa", sum := "36451410c4a7585b43045ac86622b2ca9e50b57d3ccd6523f84cae6764c898c2", func := "galloon/galloonlaw04.ChangeFewest", spec := "changeFewest", unfollowed := true, recurses := true, plainKeys := false, leaving := true, apart := false, narrowed := true }
def ChangeFewestUptoSaid : Prop := changeFewestUptoRow.holds Try.pinned (OpenSpec.upto changeFewestSpec)

/-- 'galloonlaw04.ChangeChecks', WHERE WHAT IT READS IS OF BULK AT MOST 1048576: true; the input reads as it did. -/
def changeChecksUptoRow : OpenClaim := { program := "ytfhdclhbdmhnmaa", sum := "36451410c4a7585b43045ac86622b2ca9e50b57d3ccd6523f84cae6764c898c2", func := "galloon/galloonlaw04.ChangeChecks", spec := "changeChecks", unfollowed := true, recurses := true, plainKeys := false, leaving := true, apart := false, narrowed := true }
def ChangeChecksUptoSaid : Prop := changeChecksUptoRow.holds Try.pinned (OpenSpec.upto changeChecksSpec)

/-- 'galloonlaw04.ChangeNeedless', WHERE WHAT IT READS IS OF BULK AT MOST 1048576: true; the input reads as it did. -/
def changeNeedlessUptoRow : OpenClaim := { program := "ytfhdclhbdmhnmaa", sum := "36451410c4a7585b43045ac86622b2ca9e50b57d3ccd6523f84cae6764c898c2", func := "galloon/galloonlaw04.ChangeNeedless", spec := "changeNeedless", unfollowed := true, recurses := true, plainKeys := false, leaving := true, apart := false, narrowed := true }
def ChangeNeedlessUptoSaid : Prop := changeNeedlessUptoRow.holds Try.pinned (OpenSpec.upto changeNeedlessSpec)

/-- 'galloonlaw04.ChangeBegun', WHERE WHAT IT READS IS OF BULK AT MOST 1048576: true; the input reads as it did. -/
def changeBegunUptoRow : OpenClaim := { program := "ytfhdclhbdmhnmaa", sum := "36451410c4a7585b43045ac86622b2ca9e50b57d3ccd6523f84cae6764c898c2", func := "galloon/galloonlaw04.ChangeBegun", spec := "changeBegun", unfollowed := true, recurses := true, plainKeys := false, leaving := true, apart := false, narrowed := true }
def ChangeBegunUptoSaid : Prop := changeBegunUptoRow.holds Try.pinned (OpenSpec.upto changeBegunSpec)

/-- 'galloonlaw04.ChangeGives', WHERE WHAT IT READS IS OF BULK AT MOST 1048576: true; the input reads as it did. -/
def changeGivesUptoRow : OpenClaim := { program := "ytfhdclhbdmhnmaa", sum := "36451410c4a7585b43045ac86622b2ca9e50b57d3ccd6523f84cae6764c898c2", func := "galloon/galloonlaw04.ChangeGives", spec := "changeGives", unfollowed := true, recurses := true, plainKeys := false, leaving := true, apart := false, narrowed := true }
def ChangeGivesUptoSaid : Prop := changeGivesUptoRow.holds Try.pinned (OpenSpec.upto changeGivesSpec)

/-- 'galloonlaw04.ChangeKnown', WHERE WHAT IT READS IS OF BULK AT MOST 1048576: true; the input reads as it did. -/
def changeKnownUptoRow : OpenClaim := { program := "ytfhdclhbdmhnmaa", sum := "36451410c4a7585b43045ac86622b2ca9e50b57d3ccd6523f84cae6764c898c2", func := "galloon/galloonlaw04.ChangeKnown", spec := "changeKnown", unfollowed := true, recurses := true, plainKeys := false, leaving := true, apart := false, narrowed := true }
def ChangeKnownUptoSaid : Prop := changeKnownUptoRow.holds Try.pinned (OpenSpec.upto changeKnownSpec)

end Rows
end Go.Proofs.Ytfhdclhbdmhnmaa
