/-
  DERIVED. GIVEN WITH THE SEED: THE CARDS: each row of YtghkncjelangeaaGreatDoorRows.lean that lists a variable, with what it lists TIED to the program's text (the seventh form; the later family's looks); each row that meets fmt, with fmt's text TOLD by the authors' own Lean function (tested against real Go, not proved from fmt's source: count such statements apart). THE CARD IS WHAT COUNTS. Prove the row's statement (the work); the ties are given (YtghkncjelangeaaGreatDoorTie.lean); close each card by the builder's one call (the guide's Derived/Test/ToyasCard.lean, 'card_holds'). Laid BY PROGRAM, IN A SANDBOX (cutbox-door.mjs). By AI agents, Wed Nov 11 2026. No macro, syntax, notation, axiom, sorry.
-/
import Derived.Test.YtghkncjelangeaaGreatDoorRows
import GoSem.ClaimSeven
namespace Go.Proofs.YtghkncjelangeaaGreatDoor
namespace Rows

/-- THE TIED CARD OF 'galloonlaw07.TrunkDays'. -/
def trunkDaysCard : Claim7 := { stood := { row := trunkDaysRow, standIns := [], harness := (true, "bee9a18041956ab8a39053f065df4327f6f8d6ef466b46e9aaf0ec781afcc6aa"), looks := true }, kinds := [], alts := [], goes := true, laidByText := true, laidKinds := [.handle], laidTests := true, laidLooks := .later }
def TrunkDaysCardSaid : Prop := Claim7.holds Tryz.pinned (.plain (OpenSpec.ofChange trunkDaysSpec)) trunkDaysCard

/-- THE TIED CARD OF 'galloonlaw07.TrunkSwaps'. -/
def trunkSwapsCard : Claim7 := { stood := { row := trunkSwapsRow, standIns := [], harness := (true, "bee9a18041956ab8a39053f065df4327f6f8d6ef466b46e9aaf0ec781afcc6aa"), looks := true }, kinds := [], alts := [], goes := true, laidByText := true, laidKinds := [.handle], laidTests := true, laidLooks := .later }
def TrunkSwapsCardSaid : Prop := Claim7.holds Tryz.pinned (.plain (OpenSpec.ofChange trunkSwapsSpec)) trunkSwapsCard

/-- THE TIED CARD OF 'galloonlaw07.TrunkRepacks'. -/
def trunkRepacksCard : Claim7 := { stood := { row := trunkRepacksRow, standIns := [], harness := (true, "bee9a18041956ab8a39053f065df4327f6f8d6ef466b46e9aaf0ec781afcc6aa"), looks := true }, kinds := [], alts := [], goes := true, laidByText := true, laidKinds := [.handle], laidTests := true, laidLooks := .later }
def TrunkRepacksCardSaid : Prop := Claim7.holds Tryz.pinned (.plain (OpenSpec.ofChange trunkRepacksSpec)) trunkRepacksCard

/-- THE TIED CARD OF 'galloonlaw07.TrunkBests'. -/
def trunkBestsCard : Claim7 := { stood := { row := trunkBestsRow, standIns := [], harness := (true, "bee9a18041956ab8a39053f065df4327f6f8d6ef466b46e9aaf0ec781afcc6aa"), looks := true }, kinds := [], alts := [], goes := true, laidByText := true, laidKinds := [.handle], laidTests := true, laidLooks := .later }
def TrunkBestsCardSaid : Prop := Claim7.holds Tryz.pinned (.plain (OpenSpec.ofChange trunkBestsSpec)) trunkBestsCard

/-- THE TIED CARD OF 'galloonlaw07.TrunkLifts'. -/
def trunkLiftsCard : Claim7 := { stood := { row := trunkLiftsRow, standIns := [], harness := (true, "bee9a18041956ab8a39053f065df4327f6f8d6ef466b46e9aaf0ec781afcc6aa"), looks := true }, kinds := [], alts := [], goes := true, laidByText := true, laidKinds := [.handle], laidTests := true, laidLooks := .later }
def TrunkLiftsCardSaid : Prop := Claim7.holds Tryz.pinned (.plain (OpenSpec.ofChange trunkLiftsSpec)) trunkLiftsCard

/-- THE TIED CARD OF 'galloonlaw07.TrunkPlaces'. -/
def trunkPlacesCard : Claim7 := { stood := { row := trunkPlacesRow, standIns := [], harness := (true, "bee9a18041956ab8a39053f065df4327f6f8d6ef466b46e9aaf0ec781afcc6aa"), looks := true }, kinds := [], alts := [], goes := true, laidByText := true, laidKinds := [.handle], laidTests := true, laidLooks := .later }
def TrunkPlacesCardSaid : Prop := Claim7.holds Tryz.pinned (.plain (OpenSpec.ofChange trunkPlacesSpec)) trunkPlacesCard

/-- THE TIED CARD OF 'galloonlaw07.TrunkFews'. -/
def trunkFewsCard : Claim7 := { stood := { row := trunkFewsRow, standIns := [], harness := (true, "bee9a18041956ab8a39053f065df4327f6f8d6ef466b46e9aaf0ec781afcc6aa"), looks := true }, kinds := [], alts := [], goes := true, laidByText := true, laidKinds := [.handle], laidTests := true, laidLooks := .later }
def TrunkFewsCardSaid : Prop := Claim7.holds Tryz.pinned (.plain (OpenSpec.ofChange trunkFewsSpec)) trunkFewsCard

/-- THE SECOND FORM's CARD OF 'galloonlaw07.TrunkDays'. -/
def trunkDaysUptoCard : Claim7 := { stood := { row := trunkDaysUptoRow, standIns := [], harness := (true, "bee9a18041956ab8a39053f065df4327f6f8d6ef466b46e9aaf0ec781afcc6aa"), looks := true }, kinds := [], alts := [], goes := true, laidByText := true, laidKinds := [.handle], laidTests := true, laidLooks := .later }
def TrunkDaysUptoCardSaid : Prop := Claim7.holds Tryz.pinned (.plain (OpenSpec.upto trunkDaysSpec)) trunkDaysUptoCard

/-- THE SECOND FORM's CARD OF 'galloonlaw07.TrunkSwaps'. -/
def trunkSwapsUptoCard : Claim7 := { stood := { row := trunkSwapsUptoRow, standIns := [], harness := (true, "bee9a18041956ab8a39053f065df4327f6f8d6ef466b46e9aaf0ec781afcc6aa"), looks := true }, kinds := [], alts := [], goes := true, laidByText := true, laidKinds := [.handle], laidTests := true, laidLooks := .later }
def TrunkSwapsUptoCardSaid : Prop := Claim7.holds Tryz.pinned (.plain (OpenSpec.upto trunkSwapsSpec)) trunkSwapsUptoCard

/-- THE SECOND FORM's CARD OF 'galloonlaw07.TrunkRepacks'. -/
def trunkRepacksUptoCard : Claim7 := { stood := { row := trunkRepacksUptoRow, standIns := [], harness := (true, "bee9a18041956ab8a39053f065df4327f6f8d6ef466b46e9aaf0ec781afcc6aa"), looks := true }, kinds := [], alts := [], goes := true, laidByText := true, laidKinds := [.handle], laidTests := true, laidLooks := .later }
def TrunkRepacksUptoCardSaid : Prop := Claim7.holds Tryz.pinned (.plain (OpenSpec.upto trunkRepacksSpec)) trunkRepacksUptoCard

/-- THE SECOND FORM's CARD OF 'galloonlaw07.TrunkBests'. -/
def trunkBestsUptoCard : Claim7 := { stood := { row := trunkBestsUptoRow, standIns := [], harness := (true, "bee9a18041956ab8a39053f065df4327f6f8d6ef466b46e9aaf0ec781afcc6aa"), looks := true }, kinds := [], alts := [], goes := true, laidByText := true, laidKinds := [.handle], laidTests := true, laidLooks := .later }
def TrunkBestsUptoCardSaid : Prop := Claim7.holds Tryz.pinned (.plain (OpenSpec.upto trunkBestsSpec)) trunkBestsUptoCard

/-- THE SECOND FORM's CARD OF 'galloonlaw07.TrunkLifts'. -/
def trunkLiftsUptoCard : Claim7 := { stood := { row := trunkLiftsUptoRow, standIns := [], harness := (true, "bee9a18041956ab8a39053f065df4327f6f8d6ef466b46e9aaf0ec781afcc6aa"), looks := true }, kinds := [], alts := [], goes := true, laidByText := true, laidKinds := [.handle], laidTests := true, laidLooks := .later }
def TrunkLiftsUptoCardSaid : Prop := Claim7.holds Tryz.pinned (.plain (OpenSpec.upto trunkLiftsSpec)) trunkLiftsUptoCard

/-- THE SECOND FORM's CARD OF 'galloonlaw07.TrunkPlaces'. -/
def trunkPlacesUptoCard : Claim7 := { stood := { row := trunkPlacesUptoRow, standIns := [], harness := (true, "bee9a18041956ab8a39053f065df4327f6f8d6ef466b46e9aaf0ec781afcc6aa"), looks := true }, kinds := [], alts := [], goes := true, laidByText := true, laidKinds := [.handle], laidTests := true, laidLooks := .later }
def TrunkPlacesUptoCardSaid : Prop := Claim7.holds Tryz.pinned (.plain (OpenSpec.upto trunkPlacesSpec)) trunkPlacesUptoCard

/-- THE SECOND FORM's CARD OF 'galloonlaw07.TrunkFews'. -/
def trunkFewsUptoCard : Claim7 := { stood := { row := trunkFewsUptoRow, standIns := [], harness := (true, "bee9a18041956ab8a39053f065df4327f6f8d6ef466b46e9aaf0ec781afcc6aa"), looks := true }, kinds := [], alts := [], goes := true, laidByText := true, laidKinds := [.handle], laidTests := true, laidLooks := .later }
def TrunkFewsUptoCardSaid : Prop := Claim7.holds Tryz.pinned (.plain (OpenSpec.upto trunkFewsSpec)) trunkFewsUptoCard
end Rows
end Go.Proofs.YtghkncjelangeaaGreatDoor
