/-
  DERIVED. GIVEN WITH THE SEED: THE CARDS: each row of YtcnpijmfgfnpiaaGreatDoorRows.lean that lists a variable, with what it lists TIED to the program's text (the seventh form; the later family's looks); each row that meets fmt, with fmt's text TOLD by the authors' own Lean function (tested against real Go, not proved from fmt's source: count such statements apart). THE CARD IS WHAT COUNTS. Prove the row's statement (the work); the ties are given (YtcnpijmfgfnpiaaGreatDoorTie.lean); close each card by the builder's one call (the guide's Derived/Test/ToyasCard.lean, 'card_holds'). Laid BY PROGRAM, IN A SANDBOX (cutbox-door.mjs). By AI agents, Wed Nov 11 2026. No macro, syntax, notation, axiom, sorry.
-/
import Derived.Test.YtcnpijmfgfnpiaaGreatDoorRows
import GoSem.ClaimSeven
namespace Go.Proofs.YtcnpijmfgfnpiaaGreatDoor
namespace Rows

/-- THE TIED CARD OF 'galloonlaw07.TrunkDays'. -/
def trunkDaysCard : Claim7 := { stood := { row := trunkDaysRow, standIns := [], harness := (true, "acab83065dd9477769395cee91c4c6d374b9e06951d05bcd96523ab121851a4b"), looks := true }, kinds := [], alts := [], goes := true, laidByText := true, laidKinds := [.handle], laidTests := true, laidLooks := .later }
def TrunkDaysCardSaid : Prop := Claim7.holds Tryz.pinned (.plain (OpenSpec.ofChange trunkDaysSpec)) trunkDaysCard

/-- THE TIED CARD OF 'galloonlaw07.TrunkSwaps'. -/
def trunkSwapsCard : Claim7 := { stood := { row := trunkSwapsRow, standIns := [], harness := (true, "acab83065dd9477769395cee91c4c6d374b9e06951d05bcd96523ab121851a4b"), looks := true }, kinds := [], alts := [], goes := true, laidByText := true, laidKinds := [.handle], laidTests := true, laidLooks := .later }
def TrunkSwapsCardSaid : Prop := Claim7.holds Tryz.pinned (.plain (OpenSpec.ofChange trunkSwapsSpec)) trunkSwapsCard

/-- THE TIED CARD OF 'galloonlaw07.TrunkRepacks'. -/
def trunkRepacksCard : Claim7 := { stood := { row := trunkRepacksRow, standIns := [], harness := (true, "acab83065dd9477769395cee91c4c6d374b9e06951d05bcd96523ab121851a4b"), looks := true }, kinds := [], alts := [], goes := true, laidByText := true, laidKinds := [.handle], laidTests := true, laidLooks := .later }
def TrunkRepacksCardSaid : Prop := Claim7.holds Tryz.pinned (.plain (OpenSpec.ofChange trunkRepacksSpec)) trunkRepacksCard

/-- THE TIED CARD OF 'galloonlaw07.TrunkOut'. -/
def trunkOutCard : Claim7 := { stood := { row := trunkOutRow, standIns := [], harness := (true, "acab83065dd9477769395cee91c4c6d374b9e06951d05bcd96523ab121851a4b"), looks := true }, kinds := [], alts := [], goes := true, laidByText := true, laidKinds := [.handle], laidTests := true, laidLooks := .later }
def TrunkOutCardSaid : Prop := Claim7.holds Tryz.pinned (.plain (OpenSpec.ofChange trunkOutSpec)) trunkOutCard

/-- THE TIED CARD OF 'galloonlaw07.TrunkSwap'. -/
def trunkSwapCard : Claim7 := { stood := { row := trunkSwapRow, standIns := [], harness := (true, "acab83065dd9477769395cee91c4c6d374b9e06951d05bcd96523ab121851a4b"), looks := true }, kinds := [], alts := [], goes := true, laidByText := true, laidKinds := [.handle], laidTests := true, laidLooks := .later }
def TrunkSwapCardSaid : Prop := Claim7.holds Tryz.pinned (.plain (OpenSpec.ofChange trunkSwapSpec)) trunkSwapCard

/-- THE TIED CARD OF 'galloonlaw07.TrunkRoom'. -/
def trunkRoomCard : Claim7 := { stood := { row := trunkRoomRow, standIns := [], harness := (true, "acab83065dd9477769395cee91c4c6d374b9e06951d05bcd96523ab121851a4b"), looks := true }, kinds := [], alts := [], goes := true, laidByText := true, laidKinds := [.handle], laidTests := true, laidLooks := .later }
def TrunkRoomCardSaid : Prop := Claim7.holds Tryz.pinned (.plain (OpenSpec.ofChange trunkRoomSpec)) trunkRoomCard

/-- THE TIED CARD OF 'galloonlaw07.TrunkHalves'. -/
def trunkHalvesCard : Claim7 := { stood := { row := trunkHalvesRow, standIns := [], harness := (true, "acab83065dd9477769395cee91c4c6d374b9e06951d05bcd96523ab121851a4b"), looks := true }, kinds := [], alts := [], goes := true, laidByText := true, laidKinds := [.handle], laidTests := true, laidLooks := .later }
def TrunkHalvesCardSaid : Prop := Claim7.holds Tryz.pinned (.plain (OpenSpec.ofChange trunkHalvesSpec)) trunkHalvesCard

/-- THE TIED CARD OF 'galloonlaw07.TrunkRepack'. -/
def trunkRepackCard : Claim7 := { stood := { row := trunkRepackRow, standIns := [], harness := (true, "acab83065dd9477769395cee91c4c6d374b9e06951d05bcd96523ab121851a4b"), looks := true }, kinds := [], alts := [], goes := true, laidByText := true, laidKinds := [.handle], laidTests := true, laidLooks := .later }
def TrunkRepackCardSaid : Prop := Claim7.holds Tryz.pinned (.plain (OpenSpec.ofChange trunkRepackSpec)) trunkRepackCard

/-- THE TIED CARD OF 'galloonlaw07.TrunkAlike'. -/
def trunkAlikeCard : Claim7 := { stood := { row := trunkAlikeRow, standIns := [], harness := (true, "acab83065dd9477769395cee91c4c6d374b9e06951d05bcd96523ab121851a4b"), looks := true }, kinds := [], alts := [], goes := true, laidByText := true, laidKinds := [.handle], laidTests := true, laidLooks := .later }
def TrunkAlikeCardSaid : Prop := Claim7.holds Tryz.pinned (.plain (OpenSpec.ofChange trunkAlikeSpec)) trunkAlikeCard

/-- THE TIED CARD OF 'galloonlaw07.TrunkBests'. -/
def trunkBestsCard : Claim7 := { stood := { row := trunkBestsRow, standIns := [], harness := (true, "acab83065dd9477769395cee91c4c6d374b9e06951d05bcd96523ab121851a4b"), looks := true }, kinds := [], alts := [], goes := true, laidByText := true, laidKinds := [.handle], laidTests := true, laidLooks := .later }
def TrunkBestsCardSaid : Prop := Claim7.holds Tryz.pinned (.plain (OpenSpec.ofChange trunkBestsSpec)) trunkBestsCard

/-- THE TIED CARD OF 'galloonlaw07.TrunkBest'. -/
def trunkBestCard : Claim7 := { stood := { row := trunkBestRow, standIns := [], harness := (true, "acab83065dd9477769395cee91c4c6d374b9e06951d05bcd96523ab121851a4b"), looks := true }, kinds := [], alts := [], goes := true, laidByText := true, laidKinds := [.handle], laidTests := true, laidLooks := .later }
def TrunkBestCardSaid : Prop := Claim7.holds Tryz.pinned (.plain (OpenSpec.ofChange trunkBestSpec)) trunkBestCard

/-- THE TIED CARD OF 'galloonlaw07.TrunkNumbered'. -/
def trunkNumberedCard : Claim7 := { stood := { row := trunkNumberedRow, standIns := [], harness := (true, "acab83065dd9477769395cee91c4c6d374b9e06951d05bcd96523ab121851a4b"), looks := true }, kinds := [], alts := [], goes := true, laidByText := true, laidKinds := [.handle], laidTests := true, laidLooks := .later }
def TrunkNumberedCardSaid : Prop := Claim7.holds Tryz.pinned (.plain (OpenSpec.ofChange trunkNumberedSpec)) trunkNumberedCard

/-- THE TIED CARD OF 'galloonlaw07.TrunkLifts'. -/
def trunkLiftsCard : Claim7 := { stood := { row := trunkLiftsRow, standIns := [], harness := (true, "acab83065dd9477769395cee91c4c6d374b9e06951d05bcd96523ab121851a4b"), looks := true }, kinds := [], alts := [], goes := true, laidByText := true, laidKinds := [.handle], laidTests := true, laidLooks := .later }
def TrunkLiftsCardSaid : Prop := Claim7.holds Tryz.pinned (.plain (OpenSpec.ofChange trunkLiftsSpec)) trunkLiftsCard

/-- THE TIED CARD OF 'galloonlaw07.TrunkStrings'. -/
def trunkStringsCard : Claim7 := { stood := { row := trunkStringsRow, standIns := [], harness := (true, "acab83065dd9477769395cee91c4c6d374b9e06951d05bcd96523ab121851a4b"), looks := true }, kinds := [], alts := [], goes := true, laidByText := true, laidKinds := [.handle], laidTests := true, laidLooks := .later }
def TrunkStringsCardSaid : Prop := Claim7.holds Tryz.pinned (.plain (OpenSpec.ofChange trunkStringsSpec)) trunkStringsCard

/-- THE TIED CARD OF 'galloonlaw07.TrunkRead'. -/
def trunkReadCard : Claim7 := { stood := { row := trunkReadRow, standIns := [], harness := (true, "acab83065dd9477769395cee91c4c6d374b9e06951d05bcd96523ab121851a4b"), looks := true }, kinds := [], alts := [], goes := true, laidByText := true, laidKinds := [.handle], laidTests := true, laidLooks := .later }
def TrunkReadCardSaid : Prop := Claim7.holds Tryz.pinned (.plain (OpenSpec.ofChange trunkReadSpec)) trunkReadCard

/-- THE TIED CARD OF 'galloonlaw07.TrunkPlaces'. -/
def trunkPlacesCard : Claim7 := { stood := { row := trunkPlacesRow, standIns := [], harness := (true, "acab83065dd9477769395cee91c4c6d374b9e06951d05bcd96523ab121851a4b"), looks := true }, kinds := [], alts := [], goes := true, laidByText := true, laidKinds := [.handle], laidTests := true, laidLooks := .later }
def TrunkPlacesCardSaid : Prop := Claim7.holds Tryz.pinned (.plain (OpenSpec.ofChange trunkPlacesSpec)) trunkPlacesCard

/-- THE TIED CARD OF 'galloonlaw07.TrunkSum'. -/
def trunkSumCard : Claim7 := { stood := { row := trunkSumRow, standIns := [], harness := (true, "acab83065dd9477769395cee91c4c6d374b9e06951d05bcd96523ab121851a4b"), looks := true }, kinds := [], alts := [], goes := true, laidByText := true, laidKinds := [.handle], laidTests := true, laidLooks := .later }
def TrunkSumCardSaid : Prop := Claim7.holds Tryz.pinned (.plain (OpenSpec.ofChange trunkSumSpec)) trunkSumCard

/-- THE TIED CARD OF 'galloonlaw07.TrunkFews'. -/
def trunkFewsCard : Claim7 := { stood := { row := trunkFewsRow, standIns := [], harness := (true, "acab83065dd9477769395cee91c4c6d374b9e06951d05bcd96523ab121851a4b"), looks := true }, kinds := [], alts := [], goes := true, laidByText := true, laidKinds := [.handle], laidTests := true, laidLooks := .later }
def TrunkFewsCardSaid : Prop := Claim7.holds Tryz.pinned (.plain (OpenSpec.ofChange trunkFewsSpec)) trunkFewsCard

/-- THE TIED CARD OF 'galloonlaw07.TrunkFew'. -/
def trunkFewCard : Claim7 := { stood := { row := trunkFewRow, standIns := [], harness := (true, "acab83065dd9477769395cee91c4c6d374b9e06951d05bcd96523ab121851a4b"), looks := true }, kinds := [], alts := [], goes := true, laidByText := true, laidKinds := [.handle], laidTests := true, laidLooks := .later }
def TrunkFewCardSaid : Prop := Claim7.holds Tryz.pinned (.plain (OpenSpec.ofChange trunkFewSpec)) trunkFewCard

/-- THE TIED CARD OF 'galloonlaw07.TrunkKnown'. -/
def trunkKnownCard : Claim7 := { stood := { row := trunkKnownRow, standIns := [], harness := (true, "acab83065dd9477769395cee91c4c6d374b9e06951d05bcd96523ab121851a4b"), looks := true }, kinds := [], alts := [], goes := true, laidByText := true, laidKinds := [.handle], laidTests := true, laidLooks := .later }
def TrunkKnownCardSaid : Prop := Claim7.holds Tryz.pinned (.plain (OpenSpec.ofChange trunkKnownSpec)) trunkKnownCard

/-- THE SECOND FORM's CARD OF 'galloonlaw07.TrunkDays'. -/
def trunkDaysUptoCard : Claim7 := { stood := { row := trunkDaysUptoRow, standIns := [], harness := (true, "acab83065dd9477769395cee91c4c6d374b9e06951d05bcd96523ab121851a4b"), looks := true }, kinds := [], alts := [], goes := true, laidByText := true, laidKinds := [.handle], laidTests := true, laidLooks := .later }
def TrunkDaysUptoCardSaid : Prop := Claim7.holds Tryz.pinned (.plain (OpenSpec.upto trunkDaysSpec)) trunkDaysUptoCard

/-- THE SECOND FORM's CARD OF 'galloonlaw07.TrunkSwaps'. -/
def trunkSwapsUptoCard : Claim7 := { stood := { row := trunkSwapsUptoRow, standIns := [], harness := (true, "acab83065dd9477769395cee91c4c6d374b9e06951d05bcd96523ab121851a4b"), looks := true }, kinds := [], alts := [], goes := true, laidByText := true, laidKinds := [.handle], laidTests := true, laidLooks := .later }
def TrunkSwapsUptoCardSaid : Prop := Claim7.holds Tryz.pinned (.plain (OpenSpec.upto trunkSwapsSpec)) trunkSwapsUptoCard

/-- THE SECOND FORM's CARD OF 'galloonlaw07.TrunkRepacks'. -/
def trunkRepacksUptoCard : Claim7 := { stood := { row := trunkRepacksUptoRow, standIns := [], harness := (true, "acab83065dd9477769395cee91c4c6d374b9e06951d05bcd96523ab121851a4b"), looks := true }, kinds := [], alts := [], goes := true, laidByText := true, laidKinds := [.handle], laidTests := true, laidLooks := .later }
def TrunkRepacksUptoCardSaid : Prop := Claim7.holds Tryz.pinned (.plain (OpenSpec.upto trunkRepacksSpec)) trunkRepacksUptoCard

/-- THE SECOND FORM's CARD OF 'galloonlaw07.TrunkOut'. -/
def trunkOutUptoCard : Claim7 := { stood := { row := trunkOutUptoRow, standIns := [], harness := (true, "acab83065dd9477769395cee91c4c6d374b9e06951d05bcd96523ab121851a4b"), looks := true }, kinds := [], alts := [], goes := true, laidByText := true, laidKinds := [.handle], laidTests := true, laidLooks := .later }
def TrunkOutUptoCardSaid : Prop := Claim7.holds Tryz.pinned (.plain (OpenSpec.upto trunkOutSpec)) trunkOutUptoCard

/-- THE SECOND FORM's CARD OF 'galloonlaw07.TrunkSwap'. -/
def trunkSwapUptoCard : Claim7 := { stood := { row := trunkSwapUptoRow, standIns := [], harness := (true, "acab83065dd9477769395cee91c4c6d374b9e06951d05bcd96523ab121851a4b"), looks := true }, kinds := [], alts := [], goes := true, laidByText := true, laidKinds := [.handle], laidTests := true, laidLooks := .later }
def TrunkSwapUptoCardSaid : Prop := Claim7.holds Tryz.pinned (.plain (OpenSpec.upto trunkSwapSpec)) trunkSwapUptoCard

/-- THE SECOND FORM's CARD OF 'galloonlaw07.TrunkRoom'. -/
def trunkRoomUptoCard : Claim7 := { stood := { row := trunkRoomUptoRow, standIns := [], harness := (true, "acab83065dd9477769395cee91c4c6d374b9e06951d05bcd96523ab121851a4b"), looks := true }, kinds := [], alts := [], goes := true, laidByText := true, laidKinds := [.handle], laidTests := true, laidLooks := .later }
def TrunkRoomUptoCardSaid : Prop := Claim7.holds Tryz.pinned (.plain (OpenSpec.upto trunkRoomSpec)) trunkRoomUptoCard

/-- THE SECOND FORM's CARD OF 'galloonlaw07.TrunkHalves'. -/
def trunkHalvesUptoCard : Claim7 := { stood := { row := trunkHalvesUptoRow, standIns := [], harness := (true, "acab83065dd9477769395cee91c4c6d374b9e06951d05bcd96523ab121851a4b"), looks := true }, kinds := [], alts := [], goes := true, laidByText := true, laidKinds := [.handle], laidTests := true, laidLooks := .later }
def TrunkHalvesUptoCardSaid : Prop := Claim7.holds Tryz.pinned (.plain (OpenSpec.upto trunkHalvesSpec)) trunkHalvesUptoCard

/-- THE SECOND FORM's CARD OF 'galloonlaw07.TrunkRepack'. -/
def trunkRepackUptoCard : Claim7 := { stood := { row := trunkRepackUptoRow, standIns := [], harness := (true, "acab83065dd9477769395cee91c4c6d374b9e06951d05bcd96523ab121851a4b"), looks := true }, kinds := [], alts := [], goes := true, laidByText := true, laidKinds := [.handle], laidTests := true, laidLooks := .later }
def TrunkRepackUptoCardSaid : Prop := Claim7.holds Tryz.pinned (.plain (OpenSpec.upto trunkRepackSpec)) trunkRepackUptoCard

/-- THE SECOND FORM's CARD OF 'galloonlaw07.TrunkAlike'. -/
def trunkAlikeUptoCard : Claim7 := { stood := { row := trunkAlikeUptoRow, standIns := [], harness := (true, "acab83065dd9477769395cee91c4c6d374b9e06951d05bcd96523ab121851a4b"), looks := true }, kinds := [], alts := [], goes := true, laidByText := true, laidKinds := [.handle], laidTests := true, laidLooks := .later }
def TrunkAlikeUptoCardSaid : Prop := Claim7.holds Tryz.pinned (.plain (OpenSpec.upto trunkAlikeSpec)) trunkAlikeUptoCard

/-- THE SECOND FORM's CARD OF 'galloonlaw07.TrunkBests'. -/
def trunkBestsUptoCard : Claim7 := { stood := { row := trunkBestsUptoRow, standIns := [], harness := (true, "acab83065dd9477769395cee91c4c6d374b9e06951d05bcd96523ab121851a4b"), looks := true }, kinds := [], alts := [], goes := true, laidByText := true, laidKinds := [.handle], laidTests := true, laidLooks := .later }
def TrunkBestsUptoCardSaid : Prop := Claim7.holds Tryz.pinned (.plain (OpenSpec.upto trunkBestsSpec)) trunkBestsUptoCard

/-- THE SECOND FORM's CARD OF 'galloonlaw07.TrunkBest'. -/
def trunkBestUptoCard : Claim7 := { stood := { row := trunkBestUptoRow, standIns := [], harness := (true, "acab83065dd9477769395cee91c4c6d374b9e06951d05bcd96523ab121851a4b"), looks := true }, kinds := [], alts := [], goes := true, laidByText := true, laidKinds := [.handle], laidTests := true, laidLooks := .later }
def TrunkBestUptoCardSaid : Prop := Claim7.holds Tryz.pinned (.plain (OpenSpec.upto trunkBestSpec)) trunkBestUptoCard

/-- THE SECOND FORM's CARD OF 'galloonlaw07.TrunkNumbered'. -/
def trunkNumberedUptoCard : Claim7 := { stood := { row := trunkNumberedUptoRow, standIns := [], harness := (true, "acab83065dd9477769395cee91c4c6d374b9e06951d05bcd96523ab121851a4b"), looks := true }, kinds := [], alts := [], goes := true, laidByText := true, laidKinds := [.handle], laidTests := true, laidLooks := .later }
def TrunkNumberedUptoCardSaid : Prop := Claim7.holds Tryz.pinned (.plain (OpenSpec.upto trunkNumberedSpec)) trunkNumberedUptoCard

/-- THE SECOND FORM's CARD OF 'galloonlaw07.TrunkLifts'. -/
def trunkLiftsUptoCard : Claim7 := { stood := { row := trunkLiftsUptoRow, standIns := [], harness := (true, "acab83065dd9477769395cee91c4c6d374b9e06951d05bcd96523ab121851a4b"), looks := true }, kinds := [], alts := [], goes := true, laidByText := true, laidKinds := [.handle], laidTests := true, laidLooks := .later }
def TrunkLiftsUptoCardSaid : Prop := Claim7.holds Tryz.pinned (.plain (OpenSpec.upto trunkLiftsSpec)) trunkLiftsUptoCard

/-- THE SECOND FORM's CARD OF 'galloonlaw07.TrunkStrings'. -/
def trunkStringsUptoCard : Claim7 := { stood := { row := trunkStringsUptoRow, standIns := [], harness := (true, "acab83065dd9477769395cee91c4c6d374b9e06951d05bcd96523ab121851a4b"), looks := true }, kinds := [], alts := [], goes := true, laidByText := true, laidKinds := [.handle], laidTests := true, laidLooks := .later }
def TrunkStringsUptoCardSaid : Prop := Claim7.holds Tryz.pinned (.plain (OpenSpec.upto trunkStringsSpec)) trunkStringsUptoCard

/-- THE SECOND FORM's CARD OF 'galloonlaw07.TrunkRead'. -/
def trunkReadUptoCard : Claim7 := { stood := { row := trunkReadUptoRow, standIns := [], harness := (true, "acab83065dd9477769395cee91c4c6d374b9e06951d05bcd96523ab121851a4b"), looks := true }, kinds := [], alts := [], goes := true, laidByText := true, laidKinds := [.handle], laidTests := true, laidLooks := .later }
def TrunkReadUptoCardSaid : Prop := Claim7.holds Tryz.pinned (.plain (OpenSpec.upto trunkReadSpec)) trunkReadUptoCard

/-- THE SECOND FORM's CARD OF 'galloonlaw07.TrunkPlaces'. -/
def trunkPlacesUptoCard : Claim7 := { stood := { row := trunkPlacesUptoRow, standIns := [], harness := (true, "acab83065dd9477769395cee91c4c6d374b9e06951d05bcd96523ab121851a4b"), looks := true }, kinds := [], alts := [], goes := true, laidByText := true, laidKinds := [.handle], laidTests := true, laidLooks := .later }
def TrunkPlacesUptoCardSaid : Prop := Claim7.holds Tryz.pinned (.plain (OpenSpec.upto trunkPlacesSpec)) trunkPlacesUptoCard

/-- THE SECOND FORM's CARD OF 'galloonlaw07.TrunkSum'. -/
def trunkSumUptoCard : Claim7 := { stood := { row := trunkSumUptoRow, standIns := [], harness := (true, "acab83065dd9477769395cee91c4c6d374b9e06951d05bcd96523ab121851a4b"), looks := true }, kinds := [], alts := [], goes := true, laidByText := true, laidKinds := [.handle], laidTests := true, laidLooks := .later }
def TrunkSumUptoCardSaid : Prop := Claim7.holds Tryz.pinned (.plain (OpenSpec.upto trunkSumSpec)) trunkSumUptoCard

/-- THE SECOND FORM's CARD OF 'galloonlaw07.TrunkFews'. -/
def trunkFewsUptoCard : Claim7 := { stood := { row := trunkFewsUptoRow, standIns := [], harness := (true, "acab83065dd9477769395cee91c4c6d374b9e06951d05bcd96523ab121851a4b"), looks := true }, kinds := [], alts := [], goes := true, laidByText := true, laidKinds := [.handle], laidTests := true, laidLooks := .later }
def TrunkFewsUptoCardSaid : Prop := Claim7.holds Tryz.pinned (.plain (OpenSpec.upto trunkFewsSpec)) trunkFewsUptoCard

/-- THE SECOND FORM's CARD OF 'galloonlaw07.TrunkFew'. -/
def trunkFewUptoCard : Claim7 := { stood := { row := trunkFewUptoRow, standIns := [], harness := (true, "acab83065dd9477769395cee91c4c6d374b9e06951d05bcd96523ab121851a4b"), looks := true }, kinds := [], alts := [], goes := true, laidByText := true, laidKinds := [.handle], laidTests := true, laidLooks := .later }
def TrunkFewUptoCardSaid : Prop := Claim7.holds Tryz.pinned (.plain (OpenSpec.upto trunkFewSpec)) trunkFewUptoCard

/-- THE SECOND FORM's CARD OF 'galloonlaw07.TrunkKnown'. -/
def trunkKnownUptoCard : Claim7 := { stood := { row := trunkKnownUptoRow, standIns := [], harness := (true, "acab83065dd9477769395cee91c4c6d374b9e06951d05bcd96523ab121851a4b"), looks := true }, kinds := [], alts := [], goes := true, laidByText := true, laidKinds := [.handle], laidTests := true, laidLooks := .later }
def TrunkKnownUptoCardSaid : Prop := Claim7.holds Tryz.pinned (.plain (OpenSpec.upto trunkKnownSpec)) trunkKnownUptoCard
end Rows
end Go.Proofs.YtcnpijmfgfnpiaaGreatDoor
