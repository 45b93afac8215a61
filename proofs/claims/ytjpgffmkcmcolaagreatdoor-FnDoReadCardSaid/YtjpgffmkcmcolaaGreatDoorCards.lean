/-
  DERIVED. GIVEN WITH THE SEED: THE CARDS: each row of YtjpgffmkcmcolaaGreatDoorRows.lean that lists a variable, with what it lists TIED to the program's text (the seventh form; the later family's looks); each row that meets fmt, with fmt's text TOLD by the authors' own Lean function (tested against real Go, not proved from fmt's source: count such statements apart). THE CARD IS WHAT COUNTS. Prove the row's statement (the work); the ties are given (YtjpgffmkcmcolaaGreatDoorTie.lean); close each card by the builder's one call (the guide's Derived/Test/ToyasCard.lean, 'card_holds'). Laid BY PROGRAM, IN A SANDBOX (cutbox-door.mjs). By AI agents, Wed Nov 11 2026. No macro, syntax, notation, axiom, sorry.
-/
import Derived.Test.YtjpgffmkcmcolaaGreatDoorRows
import GoSem.ClaimSeven
namespace Go.Proofs.YtjpgffmkcmcolaaGreatDoor
namespace Rows

/-- THE TIED CARD OF 'laws.FnAnswers'. -/
def fnAnswersCard : Claim7 := { stood := { row := fnAnswersRow, standIns := [], harness := (true, "47e0524d75c65f5857192498a31b64c561dcf6c7b7ad3369d0473e0ec7a62053"), looks := true }, kinds := [], alts := [], laidByText := true, laidKinds := [.handle], laidTests := true, laidLooks := .later }
def FnAnswersCardSaid : Prop := Claim7.holds Tryz.pinned (.plain (OpenSpec.ofChange fnAnswersSpec)) fnAnswersCard

/-- THE TIED CARD OF 'laws.FnOwnSlots'. -/
def fnOwnSlotsCard : Claim7 := { stood := { row := fnOwnSlotsRow, standIns := [], harness := (true, "47e0524d75c65f5857192498a31b64c561dcf6c7b7ad3369d0473e0ec7a62053"), looks := true }, kinds := [], alts := [], laidByText := true, laidKinds := [.handle], laidTests := true, laidLooks := .later }
def FnOwnSlotsCardSaid : Prop := Claim7.holds Tryz.pinned (.plain (OpenSpec.ofChange fnOwnSlotsSpec)) fnOwnSlotsCard

/-- THE TIED CARD OF 'laws.FnPageOnly'. -/
def fnPageOnlyCard : Claim7 := { stood := { row := fnPageOnlyRow, standIns := [], harness := (true, "47e0524d75c65f5857192498a31b64c561dcf6c7b7ad3369d0473e0ec7a62053"), looks := true }, kinds := [], alts := [], laidByText := true, laidKinds := [.handle], laidTests := true, laidLooks := .later }
def FnPageOnlyCardSaid : Prop := Claim7.holds Tryz.pinned (.plain (OpenSpec.ofChange fnPageOnlySpec)) fnPageOnlyCard

/-- THE TIED CARD OF 'laws.FnDoOk'. -/
def fnDoOkCard : Claim7 := { stood := { row := fnDoOkRow, standIns := [], harness := (true, "47e0524d75c65f5857192498a31b64c561dcf6c7b7ad3369d0473e0ec7a62053"), looks := true }, kinds := [], alts := [], laidByText := true, laidKinds := [.handle], laidTests := true, laidLooks := .later }
def FnDoOkCardSaid : Prop := Claim7.holds Tryz.pinned (.plain (OpenSpec.ofChange fnDoOkSpec)) fnDoOkCard

/-- THE TIED CARD OF 'laws.FnDoFetch'. -/
def fnDoFetchCard : Claim7 := { stood := { row := fnDoFetchRow, standIns := [], harness := (true, "47e0524d75c65f5857192498a31b64c561dcf6c7b7ad3369d0473e0ec7a62053"), looks := true }, kinds := [], alts := [], laidByText := true, laidKinds := [.handle], laidTests := true, laidLooks := .later }
def FnDoFetchCardSaid : Prop := Claim7.holds Tryz.pinned (.plain (OpenSpec.ofChange fnDoFetchSpec)) fnDoFetchCard

/-- THE TIED CARD OF 'laws.FnBlindSame'. -/
def fnBlindSameCard : Claim7 := { stood := { row := fnBlindSameRow, standIns := [], harness := (true, "47e0524d75c65f5857192498a31b64c561dcf6c7b7ad3369d0473e0ec7a62053"), looks := true }, kinds := [], alts := [], laidByText := true, laidKinds := [.handle], laidTests := true, laidLooks := .later }
def FnBlindSameCardSaid : Prop := Claim7.holds Tryz.pinned (.plain (OpenSpec.ofChange fnBlindSameSpec)) fnBlindSameCard

/-- THE TIED CARD OF 'laws.FnDoWrite'. -/
def fnDoWriteCard : Claim7 := { stood := { row := fnDoWriteRow, standIns := [], harness := (true, "47e0524d75c65f5857192498a31b64c561dcf6c7b7ad3369d0473e0ec7a62053"), looks := true }, kinds := [], alts := [], laidByText := true, laidKinds := [.handle], laidTests := true, laidLooks := .later }
def FnDoWriteCardSaid : Prop := Claim7.holds Tryz.pinned (.plain (OpenSpec.ofChange fnDoWriteSpec)) fnDoWriteCard

/-- THE TIED CARD OF 'laws.FnDoTake'. -/
def fnDoTakeCard : Claim7 := { stood := { row := fnDoTakeRow, standIns := [], harness := (true, "47e0524d75c65f5857192498a31b64c561dcf6c7b7ad3369d0473e0ec7a62053"), looks := true }, kinds := [], alts := [], laidByText := true, laidKinds := [.handle], laidTests := true, laidLooks := .later }
def FnDoTakeCardSaid : Prop := Claim7.holds Tryz.pinned (.plain (OpenSpec.ofChange fnDoTakeSpec)) fnDoTakeCard

/-- THE TIED CARD OF 'laws.FnReadTwice'. -/
def fnReadTwiceCard : Claim7 := { stood := { row := fnReadTwiceRow, standIns := [], harness := (true, "47e0524d75c65f5857192498a31b64c561dcf6c7b7ad3369d0473e0ec7a62053"), looks := true }, kinds := [], alts := [], laidByText := true, laidKinds := [.handle], laidTests := true, laidLooks := .later }
def FnReadTwiceCardSaid : Prop := Claim7.holds Tryz.pinned (.plain (OpenSpec.ofChange fnReadTwiceSpec)) fnReadTwiceCard

/-- THE TIED CARD OF 'laws.FnDoStore'. -/
def fnDoStoreCard : Claim7 := { stood := { row := fnDoStoreRow, standIns := [], harness := (true, "47e0524d75c65f5857192498a31b64c561dcf6c7b7ad3369d0473e0ec7a62053"), looks := true }, kinds := [], alts := [], laidByText := true, laidKinds := [.handle], laidTests := true, laidLooks := .later }
def FnDoStoreCardSaid : Prop := Claim7.holds Tryz.pinned (.plain (OpenSpec.ofChange fnDoStoreSpec)) fnDoStoreCard

/-- THE TIED CARD OF 'laws.FnNumberKept'. -/
def fnNumberKeptCard : Claim7 := { stood := { row := fnNumberKeptRow, standIns := [], harness := (true, "47e0524d75c65f5857192498a31b64c561dcf6c7b7ad3369d0473e0ec7a62053"), looks := true }, kinds := [], alts := [], laidByText := true, laidKinds := [.handle], laidTests := true, laidLooks := .later }
def FnNumberKeptCardSaid : Prop := Claim7.holds Tryz.pinned (.plain (OpenSpec.ofChange fnNumberKeptSpec)) fnNumberKeptCard

/-- THE TIED CARD OF 'laws.FnDoRead'. -/
def fnDoReadCard : Claim7 := { stood := { row := fnDoReadRow, standIns := [], harness := (true, "47e0524d75c65f5857192498a31b64c561dcf6c7b7ad3369d0473e0ec7a62053"), looks := true }, kinds := [], alts := [], laidByText := true, laidKinds := [.handle], laidTests := true, laidLooks := .later }
def FnDoReadCardSaid : Prop := Claim7.holds Tryz.pinned (.plain (OpenSpec.ofChange fnDoReadSpec)) fnDoReadCard

/-- THE SECOND FORM's CARD OF 'laws.FnAnswers'. -/
def fnAnswersUptoCard : Claim7 := { stood := { row := fnAnswersUptoRow, standIns := [], harness := (true, "47e0524d75c65f5857192498a31b64c561dcf6c7b7ad3369d0473e0ec7a62053"), looks := true }, kinds := [], alts := [], laidByText := true, laidKinds := [.handle], laidTests := true, laidLooks := .later }
def FnAnswersUptoCardSaid : Prop := Claim7.holds Tryz.pinned (.plain (OpenSpec.upto fnAnswersSpec)) fnAnswersUptoCard

/-- THE SECOND FORM's CARD OF 'laws.FnOwnSlots'. -/
def fnOwnSlotsUptoCard : Claim7 := { stood := { row := fnOwnSlotsUptoRow, standIns := [], harness := (true, "47e0524d75c65f5857192498a31b64c561dcf6c7b7ad3369d0473e0ec7a62053"), looks := true }, kinds := [], alts := [], laidByText := true, laidKinds := [.handle], laidTests := true, laidLooks := .later }
def FnOwnSlotsUptoCardSaid : Prop := Claim7.holds Tryz.pinned (.plain (OpenSpec.upto fnOwnSlotsSpec)) fnOwnSlotsUptoCard

/-- THE SECOND FORM's CARD OF 'laws.FnPageOnly'. -/
def fnPageOnlyUptoCard : Claim7 := { stood := { row := fnPageOnlyUptoRow, standIns := [], harness := (true, "47e0524d75c65f5857192498a31b64c561dcf6c7b7ad3369d0473e0ec7a62053"), looks := true }, kinds := [], alts := [], laidByText := true, laidKinds := [.handle], laidTests := true, laidLooks := .later }
def FnPageOnlyUptoCardSaid : Prop := Claim7.holds Tryz.pinned (.plain (OpenSpec.upto fnPageOnlySpec)) fnPageOnlyUptoCard

/-- THE SECOND FORM's CARD OF 'laws.FnDoOk'. -/
def fnDoOkUptoCard : Claim7 := { stood := { row := fnDoOkUptoRow, standIns := [], harness := (true, "47e0524d75c65f5857192498a31b64c561dcf6c7b7ad3369d0473e0ec7a62053"), looks := true }, kinds := [], alts := [], laidByText := true, laidKinds := [.handle], laidTests := true, laidLooks := .later }
def FnDoOkUptoCardSaid : Prop := Claim7.holds Tryz.pinned (.plain (OpenSpec.upto fnDoOkSpec)) fnDoOkUptoCard

/-- THE SECOND FORM's CARD OF 'laws.FnDoFetch'. -/
def fnDoFetchUptoCard : Claim7 := { stood := { row := fnDoFetchUptoRow, standIns := [], harness := (true, "47e0524d75c65f5857192498a31b64c561dcf6c7b7ad3369d0473e0ec7a62053"), looks := true }, kinds := [], alts := [], laidByText := true, laidKinds := [.handle], laidTests := true, laidLooks := .later }
def FnDoFetchUptoCardSaid : Prop := Claim7.holds Tryz.pinned (.plain (OpenSpec.upto fnDoFetchSpec)) fnDoFetchUptoCard

/-- THE SECOND FORM's CARD OF 'laws.FnBlindSame'. -/
def fnBlindSameUptoCard : Claim7 := { stood := { row := fnBlindSameUptoRow, standIns := [], harness := (true, "47e0524d75c65f5857192498a31b64c561dcf6c7b7ad3369d0473e0ec7a62053"), looks := true }, kinds := [], alts := [], laidByText := true, laidKinds := [.handle], laidTests := true, laidLooks := .later }
def FnBlindSameUptoCardSaid : Prop := Claim7.holds Tryz.pinned (.plain (OpenSpec.upto fnBlindSameSpec)) fnBlindSameUptoCard

/-- THE SECOND FORM's CARD OF 'laws.FnDoWrite'. -/
def fnDoWriteUptoCard : Claim7 := { stood := { row := fnDoWriteUptoRow, standIns := [], harness := (true, "47e0524d75c65f5857192498a31b64c561dcf6c7b7ad3369d0473e0ec7a62053"), looks := true }, kinds := [], alts := [], laidByText := true, laidKinds := [.handle], laidTests := true, laidLooks := .later }
def FnDoWriteUptoCardSaid : Prop := Claim7.holds Tryz.pinned (.plain (OpenSpec.upto fnDoWriteSpec)) fnDoWriteUptoCard

/-- THE SECOND FORM's CARD OF 'laws.FnDoTake'. -/
def fnDoTakeUptoCard : Claim7 := { stood := { row := fnDoTakeUptoRow, standIns := [], harness := (true, "47e0524d75c65f5857192498a31b64c561dcf6c7b7ad3369d0473e0ec7a62053"), looks := true }, kinds := [], alts := [], laidByText := true, laidKinds := [.handle], laidTests := true, laidLooks := .later }
def FnDoTakeUptoCardSaid : Prop := Claim7.holds Tryz.pinned (.plain (OpenSpec.upto fnDoTakeSpec)) fnDoTakeUptoCard

/-- THE SECOND FORM's CARD OF 'laws.FnReadTwice'. -/
def fnReadTwiceUptoCard : Claim7 := { stood := { row := fnReadTwiceUptoRow, standIns := [], harness := (true, "47e0524d75c65f5857192498a31b64c561dcf6c7b7ad3369d0473e0ec7a62053"), looks := true }, kinds := [], alts := [], laidByText := true, laidKinds := [.handle], laidTests := true, laidLooks := .later }
def FnReadTwiceUptoCardSaid : Prop := Claim7.holds Tryz.pinned (.plain (OpenSpec.upto fnReadTwiceSpec)) fnReadTwiceUptoCard

/-- THE SECOND FORM's CARD OF 'laws.FnDoStore'. -/
def fnDoStoreUptoCard : Claim7 := { stood := { row := fnDoStoreUptoRow, standIns := [], harness := (true, "47e0524d75c65f5857192498a31b64c561dcf6c7b7ad3369d0473e0ec7a62053"), looks := true }, kinds := [], alts := [], laidByText := true, laidKinds := [.handle], laidTests := true, laidLooks := .later }
def FnDoStoreUptoCardSaid : Prop := Claim7.holds Tryz.pinned (.plain (OpenSpec.upto fnDoStoreSpec)) fnDoStoreUptoCard

/-- THE SECOND FORM's CARD OF 'laws.FnNumberKept'. -/
def fnNumberKeptUptoCard : Claim7 := { stood := { row := fnNumberKeptUptoRow, standIns := [], harness := (true, "47e0524d75c65f5857192498a31b64c561dcf6c7b7ad3369d0473e0ec7a62053"), looks := true }, kinds := [], alts := [], laidByText := true, laidKinds := [.handle], laidTests := true, laidLooks := .later }
def FnNumberKeptUptoCardSaid : Prop := Claim7.holds Tryz.pinned (.plain (OpenSpec.upto fnNumberKeptSpec)) fnNumberKeptUptoCard

/-- THE SECOND FORM's CARD OF 'laws.FnDoRead'. -/
def fnDoReadUptoCard : Claim7 := { stood := { row := fnDoReadUptoRow, standIns := [], harness := (true, "47e0524d75c65f5857192498a31b64c561dcf6c7b7ad3369d0473e0ec7a62053"), looks := true }, kinds := [], alts := [], laidByText := true, laidKinds := [.handle], laidTests := true, laidLooks := .later }
def FnDoReadUptoCardSaid : Prop := Claim7.holds Tryz.pinned (.plain (OpenSpec.upto fnDoReadSpec)) fnDoReadUptoCard
end Rows
end Go.Proofs.YtjpgffmkcmcolaaGreatDoor
