/-
  No cell of these rows narrows 'for every input' (looked for: loops, veiled, ifaces, maps, wideKeys, modest, calm, conditions, laid).
  DERIVED. THE GIVEN ROWS OF THIS SEAT. 2 by the template 'for every input the law returns true; each argument reads behind the call as it read before'; 0 by the template 'total and deterministic' (their statements: YtopgphikdglphaaTotals.lean).
  GIVEN WITH THE SEED: the statements are not yours to turn. If you find one false, say at which input.
  Laid BY PROGRAM, IN A SANDBOX (cutbox-rows.mjs): the forced cells as the released guide's own fill.sh prints them over the translation 18e6baa7181c1648… (all of the seat's roots in one cut). By AI agents, Wed Nov 11 2026. No macro, syntax, notation, axiom, sorry.
-/
import Derived.Test.YtopgphikdglphaaChecked
import GoSem.Claim
import GoSem.ClaimJoined
import GoSem.ClaimMapViews
import Derived.JoinedTies
import Derived.KernelRfl
namespace Go.Proofs.Ytopgphikdglphaa
/- THE CELL 'sum', in the pinned program and in every row, IS THE sha256 OF THE DUMP (.gsa) THAT YtopgphikdglphaaProg.lean LOADS. Nothing in Lean hashes anything: it is a label: what it is worth is what the hold of that sum in a sandbox is worth. -/
noncomputable def Try.pinned : Pinned := { name := "ytopgphikdglphaa", sum := "18e6baa7181c164872b1e90b4375572ac6edd73291390977e7d5d93c660d7fde", checked := Try.checked }
namespace Rows
def none {H : Type} : Left H := { results := [], args := [] }

/-- 'galloonlaw04.ChangeNeedless': WHATEVER THE INPUT: true; the input reads as it did. -/
def changeNeedlessSpec : ChangeSpec := { name := "changeNeedless", fn := fun _ => fun
  | [d] => { results := [.lit (.bool true)], args := [d] }
  | _ => none }
def changeNeedlessRow : OpenClaim := { program := "ytopgphikdglphaa", sum := "18e6baa7181c164872b1e90b4375572ac6edd73291390977e7d5d93c660d7fde", func := "galloon/galloonlaw04.ChangeNeedless", spec := "changeNeedless", unfollowed := true, recurses := true, plainKeys := false, leaving := true, apart := false }
def ChangeNeedlessSaid : Prop := changeNeedlessRow.holds Try.pinned (OpenSpec.ofChange changeNeedlessSpec)

/-- ITS FALSE NEIGHBOUR: 'it returns false'. Refute it at one input. -/
def changeNeedlessWrong : ChangeSpec := { name := "changeNeedless", fn := fun _ => fun
  | [d] => { results := [.lit (.bool false)], args := [d] }
  | _ => none }
def ChangeNeedlessWrongFalsely : Prop := changeNeedlessRow.holds Try.pinned (OpenSpec.ofChange changeNeedlessWrong)

/-- 'galloonlaw04.ChangeKnown': WHATEVER THE INPUT: true; the input reads as it did. -/
def changeKnownSpec : ChangeSpec := { name := "changeKnown", fn := fun _ => fun
  | [] => { results := [.lit (.bool true)], args := [] }
  | _ => none }
def changeKnownRow : OpenClaim := { program := "ytopgphikdglphaa", sum := "18e6baa7181c164872b1e90b4375572ac6edd73291390977e7d5d93c660d7fde", func := "galloon/galloonlaw04.ChangeKnown", spec := "changeKnown", unfollowed := true, recurses := true, plainKeys := false, leaving := true, apart := false }
def ChangeKnownSaid : Prop := changeKnownRow.holds Try.pinned (OpenSpec.ofChange changeKnownSpec)

/-- ITS FALSE NEIGHBOUR: 'it returns false'. Refute it at one input. -/
def changeKnownWrong : ChangeSpec := { name := "changeKnown", fn := fun _ => fun
  | [] => { results := [.lit (.bool false)], args := [] }
  | _ => none }
def ChangeKnownWrongFalsely : Prop := changeKnownRow.holds Try.pinned (OpenSpec.ofChange changeKnownWrong)

/- THE SECOND FORM. 'bulk': how many values and letters a reading holds, each counted each time it is reached (what is shared counts as often as it is met; a slice's spare places count too). A statement '..UptoSaid' is the law's where the arguments, and the package variables that the reading takes, are together of bulk at most 1048576: NARROWER than '..Said'. Prove '..Said' where nothing that the law and all that it calls make is longer than what came in: it says more and counts as full. Else prove '..UptoSaid'. A law counts once. -/
mutual
def uptoBulk {H : Type} : DataW H → Nat
  | .lit (.string bytes) => bytes.length + 1
  | .lit _ => 1
  | .nil => 1
  | .ptr d => uptoBulk d + 1
  | .slice elems spare => uptoBulkAll elems + uptoBulkAll spare + 1
  | .agg parts => uptoBulkAll parts + 1
  | .iface _ d => uptoBulk d + 1
  | .map entries => uptoBulkEntries entries + 1
  | .held _ => 1
def uptoBulkAll {H : Type} : List (DataW H) → Nat
  | [] => 0
  | d :: r => uptoBulk d + uptoBulkAll r
def uptoBulkEntries {H : Type} : List (Lit × DataW H) → Nat
  | [] => 0
  | x :: r => uptoBulkEntry x + uptoBulkEntries r
def uptoBulkEntry {H : Type} : Lit × DataW H → Nat
  | (.string bytes, d) => bytes.length + uptoBulk d + 1
  | (_, d) => uptoBulk d + 1
 end
def uptoSmall : (H : Type) → List (DataW H) → Bool := fun _ ds => decide (uptoBulkAll ds ≤ 1048576)
def OpenSpec.upto (s : _root_.Go.ChangeSpec) : _root_.Go.OpenSpec := { _root_.Go.OpenSpec.ofChange s with cond := some uptoSmall }

/-- 'galloonlaw04.ChangeNeedless', WHERE WHAT IT READS IS OF BULK AT MOST 1048576: true; the input reads as it did. -/
def changeNeedlessUptoRow : OpenClaim := { program := "ytopgphikdglphaa", sum := "18e6baa7181c164872b1e90b4375572ac6edd73291390977e7d5d93c660d7fde", func := "galloon/galloonlaw04.ChangeNeedless", spec := "changeNeedless", unfollowed := true, recurses := true, plainKeys := false, leaving := true, apart := false, narrowed := true }
def ChangeNeedlessUptoSaid : Prop := changeNeedlessUptoRow.holds Try.pinned (OpenSpec.upto changeNeedlessSpec)

/-- 'galloonlaw04.ChangeKnown', WHERE WHAT IT READS IS OF BULK AT MOST 1048576: true; the input reads as it did. -/
def changeKnownUptoRow : OpenClaim := { program := "ytopgphikdglphaa", sum := "18e6baa7181c164872b1e90b4375572ac6edd73291390977e7d5d93c660d7fde", func := "galloon/galloonlaw04.ChangeKnown", spec := "changeKnown", unfollowed := true, recurses := true, plainKeys := false, leaving := true, apart := false, narrowed := true }
def ChangeKnownUptoSaid : Prop := changeKnownUptoRow.holds Try.pinned (OpenSpec.upto changeKnownSpec)

end Rows
end Go.Proofs.Ytopgphikdglphaa
