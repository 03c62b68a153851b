/-
  DERIVED. GIVEN WITH THE SEED: THE CARDS: each row of YtmeojbemjkmebaaGreatDoorRows.lean that lists a variable, with what it lists TIED to the program's text (the seventh form; the later family's looks); each row that meets fmt, with fmt's text TOLD by the authors' own Lean function (tested against real Go, not proved from fmt's source: count such statements apart). THE CARD IS WHAT COUNTS. Prove the row's statement (the work); the ties are given (YtmeojbemjkmebaaGreatDoorTie.lean); close each card by the builder's one call (the guide's Derived/Test/ToyasCard.lean, 'card_holds'). Laid BY PROGRAM, IN A SANDBOX (cutbox-door.mjs). By AI agents, Wed Nov 11 2026. No macro, syntax, notation, axiom, sorry.
-/
import Derived.Test.YtmeojbemjkmebaaGreatDoorRows
import GoSem.ClaimSeven
namespace Go.Proofs.YtmeojbemjkmebaaGreatDoor
namespace Rows

/-- THE TIED CARD OF 'galloonlaw07.TrunkHalves'. -/
def trunkHalvesCard : Claim7 := { stood := { row := trunkHalvesRow, standIns := [], harness := (true, "9085558d1793e96bafa15a1646b52710de85b5536b62ee6148b665db52a23b1a"), looks := true }, kinds := [], alts := [], goes := true, laidByText := true, laidKinds := [.handle], laidTests := true, laidLooks := .later }
def TrunkHalvesCardSaid : Prop := Claim7.holds Tryz.pinned (.plain (OpenSpec.ofChange trunkHalvesSpec)) trunkHalvesCard

/-- THE TIED CARD OF 'galloonlaw07.TrunkStrings'. -/
def trunkStringsCard : Claim7 := { stood := { row := trunkStringsRow, standIns := [], harness := (true, "9085558d1793e96bafa15a1646b52710de85b5536b62ee6148b665db52a23b1a"), looks := true }, kinds := [], alts := [], goes := true, laidByText := true, laidKinds := [.handle], laidTests := true, laidLooks := .later }
def TrunkStringsCardSaid : Prop := Claim7.holds Tryz.pinned (.plain (OpenSpec.ofChange trunkStringsSpec)) trunkStringsCard

/-- THE TIED CARD OF 'galloonlaw07.TrunkBests'. -/
def trunkBestsCard : Claim7 := { stood := { row := trunkBestsRow, standIns := [], harness := (true, "9085558d1793e96bafa15a1646b52710de85b5536b62ee6148b665db52a23b1a"), looks := true }, kinds := [], alts := [], goes := true, laidByText := true, laidKinds := [.handle], laidTests := true, laidLooks := .later }
def TrunkBestsCardSaid : Prop := Claim7.holds Tryz.pinned (.plain (OpenSpec.ofChange trunkBestsSpec)) trunkBestsCard

/-- THE TIED CARD OF 'galloonlaw07.TrunkSwaps'. -/
def trunkSwapsCard : Claim7 := { stood := { row := trunkSwapsRow, standIns := [], harness := (true, "9085558d1793e96bafa15a1646b52710de85b5536b62ee6148b665db52a23b1a"), looks := true }, kinds := [], alts := [], goes := true, laidByText := true, laidKinds := [.handle], laidTests := true, laidLooks := .later }
def TrunkSwapsCardSaid : Prop := Claim7.holds Tryz.pinned (.plain (OpenSpec.ofChange trunkSwapsSpec)) trunkSwapsCard

/-- THE SECOND FORM's CARD OF 'galloonlaw07.TrunkHalves'. -/
def trunkHalvesUptoCard : Claim7 := { stood := { row := trunkHalvesUptoRow, standIns := [], harness := (true, "9085558d1793e96bafa15a1646b52710de85b5536b62ee6148b665db52a23b1a"), looks := true }, kinds := [], alts := [], goes := true, laidByText := true, laidKinds := [.handle], laidTests := true, laidLooks := .later }
def TrunkHalvesUptoCardSaid : Prop := Claim7.holds Tryz.pinned (.plain (OpenSpec.upto trunkHalvesSpec)) trunkHalvesUptoCard

/-- THE SECOND FORM's CARD OF 'galloonlaw07.TrunkStrings'. -/
def trunkStringsUptoCard : Claim7 := { stood := { row := trunkStringsUptoRow, standIns := [], harness := (true, "9085558d1793e96bafa15a1646b52710de85b5536b62ee6148b665db52a23b1a"), looks := true }, kinds := [], alts := [], goes := true, laidByText := true, laidKinds := [.handle], laidTests := true, laidLooks := .later }
def TrunkStringsUptoCardSaid : Prop := Claim7.holds Tryz.pinned (.plain (OpenSpec.upto trunkStringsSpec)) trunkStringsUptoCard

/-- THE SECOND FORM's CARD OF 'galloonlaw07.TrunkBests'. -/
def trunkBestsUptoCard : Claim7 := { stood := { row := trunkBestsUptoRow, standIns := [], harness := (true, "9085558d1793e96bafa15a1646b52710de85b5536b62ee6148b665db52a23b1a"), looks := true }, kinds := [], alts := [], goes := true, laidByText := true, laidKinds := [.handle], laidTests := true, laidLooks := .later }
def TrunkBestsUptoCardSaid : Prop := Claim7.holds Tryz.pinned (.plain (OpenSpec.upto trunkBestsSpec)) trunkBestsUptoCard

/-- THE SECOND FORM's CARD OF 'galloonlaw07.TrunkSwaps'. -/
def trunkSwapsUptoCard : Claim7 := { stood := { row := trunkSwapsUptoRow, standIns := [], harness := (true, "9085558d1793e96bafa15a1646b52710de85b5536b62ee6148b665db52a23b1a"), looks := true }, kinds := [], alts := [], goes := true, laidByText := true, laidKinds := [.handle], laidTests := true, laidLooks := .later }
def TrunkSwapsUptoCardSaid : Prop := Claim7.holds Tryz.pinned (.plain (OpenSpec.upto trunkSwapsSpec)) trunkSwapsUptoCard
end Rows
end Go.Proofs.YtmeojbemjkmebaaGreatDoor
