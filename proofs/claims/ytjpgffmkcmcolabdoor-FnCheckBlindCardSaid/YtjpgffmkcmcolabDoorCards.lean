/-
  DERIVED. GIVEN WITH THE SEED: THE CARDS: each row of YtjpgffmkcmcolabDoorRows.lean that lists a variable, with what it lists TIED to the program's text (the seventh form; the later family's looks); each row that meets fmt, with fmt's text TOLD by the authors' own Lean function (tested against real Go, not proved from fmt's source: count such statements apart). THE CARD IS WHAT COUNTS. Prove the row's statement (the work); the ties are given (YtjpgffmkcmcolabDoorTie.lean); close each card by the builder's one call (the guide's Derived/Test/ToyasCard.lean, 'card_holds'). Laid BY PROGRAM, IN A SANDBOX (cutbox-door.mjs). By AI agents, Wed Nov 11 2026. No macro, syntax, notation, axiom, sorry.
-/
import Derived.Test.YtjpgffmkcmcolabDoorRows
import GoSem.ClaimSeven
namespace Go.Proofs.YtjpgffmkcmcolabDoor
namespace Rows

/-- THE TIED CARD OF 'laws.FnCheckLess'. -/
def fnCheckLessCard : Claim7 := { stood := { row := fnCheckLessRow, standIns := [], harness := (true, "a241948dd215dd10d948c7293895777aad46fd9dc92166bbd4b6fb9231dc2b56"), looks := true }, kinds := [], alts := [], laidByText := true, laidKinds := [.handle], laidTests := true, laidLooks := .later }
def FnCheckLessCardSaid : Prop := Claim7.holds Tryd.pinned (.plain (OpenSpec.ofChange fnCheckLessSpec)) fnCheckLessCard

/-- THE TIED CARD OF 'laws.FnCheckBlind'. -/
def fnCheckBlindCard : Claim7 := { stood := { row := fnCheckBlindRow, standIns := [], harness := (true, "a241948dd215dd10d948c7293895777aad46fd9dc92166bbd4b6fb9231dc2b56"), looks := true }, kinds := [], alts := [], laidByText := true, laidKinds := [.handle], laidTests := true, laidLooks := .later }
def FnCheckBlindCardSaid : Prop := Claim7.holds Tryd.pinned (.plain (OpenSpec.ofChange fnCheckBlindSpec)) fnCheckBlindCard

/-- THE SECOND FORM's CARD OF 'laws.FnCheckLess'. -/
def fnCheckLessUptoCard : Claim7 := { stood := { row := fnCheckLessUptoRow, standIns := [], harness := (true, "a241948dd215dd10d948c7293895777aad46fd9dc92166bbd4b6fb9231dc2b56"), looks := true }, kinds := [], alts := [], laidByText := true, laidKinds := [.handle], laidTests := true, laidLooks := .later }
def FnCheckLessUptoCardSaid : Prop := Claim7.holds Tryd.pinned (.plain (OpenSpec.upto fnCheckLessSpec)) fnCheckLessUptoCard

/-- THE SECOND FORM's CARD OF 'laws.FnCheckBlind'. -/
def fnCheckBlindUptoCard : Claim7 := { stood := { row := fnCheckBlindUptoRow, standIns := [], harness := (true, "a241948dd215dd10d948c7293895777aad46fd9dc92166bbd4b6fb9231dc2b56"), looks := true }, kinds := [], alts := [], laidByText := true, laidKinds := [.handle], laidTests := true, laidLooks := .later }
def FnCheckBlindUptoCardSaid : Prop := Claim7.holds Tryd.pinned (.plain (OpenSpec.upto fnCheckBlindSpec)) fnCheckBlindUptoCard
end Rows
end Go.Proofs.YtjpgffmkcmcolabDoor
