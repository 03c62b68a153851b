/-
  DERIVED. GIVEN WITH THE SEED: THE CARDS: each row of YtddneonghpmidaaGreatDoorRows.lean that lists a variable, with what it lists TIED to the program's text (the seventh form; the later family's looks); each row that meets fmt, with fmt's text TOLD by the authors' own Lean function (tested against real Go, not proved from fmt's source: count such statements apart). THE CARD IS WHAT COUNTS. Prove the row's statement (the work); the ties are given (YtddneonghpmidaaGreatDoorTie.lean); close each card by the builder's one call (the guide's Derived/Test/ToyasCard.lean, 'card_holds'). Laid BY PROGRAM, IN A SANDBOX (cutbox-door.mjs). By AI agents, Wed Nov 11 2026. No macro, syntax, notation, axiom, sorry.
-/
import Derived.Test.YtddneonghpmidaaGreatDoorRows
import GoSem.ClaimSeven
namespace Go.Proofs.YtddneonghpmidaaGreatDoor
namespace Rows

/-- THE TIED CARD OF 'galloonlaw07.TrunkFews'. -/
def trunkFewsCard : Claim7 := { stood := { row := trunkFewsRow, standIns := [], harness := (true, "b434197014eac4a22e7de735772b3f970d23e6b63ccb5445836b942b17a73785"), looks := true }, kinds := [], alts := [], goes := true, laidByText := true, laidKinds := [.handle], laidTests := true, laidLooks := .later }
def TrunkFewsCardSaid : Prop := Claim7.holds Tryz.pinned (.plain (OpenSpec.ofChange trunkFewsSpec)) trunkFewsCard

/-- THE SECOND FORM's CARD OF 'galloonlaw07.TrunkFews'. -/
def trunkFewsUptoCard : Claim7 := { stood := { row := trunkFewsUptoRow, standIns := [], harness := (true, "b434197014eac4a22e7de735772b3f970d23e6b63ccb5445836b942b17a73785"), looks := true }, kinds := [], alts := [], goes := true, laidByText := true, laidKinds := [.handle], laidTests := true, laidLooks := .later }
def TrunkFewsUptoCardSaid : Prop := Claim7.holds Tryz.pinned (.plain (OpenSpec.upto trunkFewsSpec)) trunkFewsUptoCard
end Rows
end Go.Proofs.YtddneonghpmidaaGreatDoor
