/-
  DERIVED. GIVEN WITH THE SEED: THE CARDS: each row of YtemimomfjapgiaaDoorRows.lean that lists a variable, with what it lists TIED to the program's text (the seventh form; the later family's looks); each row that meets fmt, with fmt's text TOLD by the authors' own Lean function (tested against real Go, not proved from fmt's source: count such statements apart). THE CARD IS WHAT COUNTS. Prove the row's statement (the work); the ties are given (YtemimomfjapgiaaDoorTie.lean); close each card by the builder's one call (the guide's Derived/Test/ToyasCard.lean, 'card_holds'). Laid BY PROGRAM, IN A SANDBOX (cutbox-door.mjs). By AI agents, Wed Nov 11 2026. No macro, syntax, notation, axiom, sorry.
-/
import Derived.Test.YtemimomfjapgiaaDoorRows
import GoSem.ClaimSeven
namespace Go.Proofs.YtemimomfjapgiaaDoor
namespace Rows

/-- THE TIED CARD OF 'laws.FnTableMore'. -/
def fnTableMoreCard : Claim7 := { stood := { row := fnTableMoreRow, standIns := [], harness := (true, "465d5337aa6c15ec85946dee767d1e0e47d2f4812a9e1ae442ec6b684144e1ff"), looks := false }, kinds := [], alts := [], laidByText := true, laidKinds := [.data, .data, .data], laidTests := true, laidLooks := .later }
def FnTableMoreCardSaid : Prop := Claim7.holds Tryd.pinned (.plain (OpenSpec.ofChange fnTableMoreSpec)) fnTableMoreCard

/-- THE TIED CARD OF 'laws.FnNewApart'. -/
def fnNewApartCard : Claim7 := { stood := { row := fnNewApartRow, standIns := [], harness := (true, "465d5337aa6c15ec85946dee767d1e0e47d2f4812a9e1ae442ec6b684144e1ff"), looks := false }, kinds := [], alts := [], laidByText := true, laidKinds := [.data, .data, .data], laidTests := true, laidLooks := .later }
def FnNewApartCardSaid : Prop := Claim7.holds Tryd.pinned (.plain (OpenSpec.ofChange fnNewApartSpec)) fnNewApartCard

/-- THE SECOND FORM's CARD OF 'laws.FnTableMore'. -/
def fnTableMoreUptoCard : Claim7 := { stood := { row := fnTableMoreUptoRow, standIns := [], harness := (true, "465d5337aa6c15ec85946dee767d1e0e47d2f4812a9e1ae442ec6b684144e1ff"), looks := false }, kinds := [], alts := [], laidByText := true, laidKinds := [.data, .data, .data], laidTests := true, laidLooks := .later }
def FnTableMoreUptoCardSaid : Prop := Claim7.holds Tryd.pinned (.plain (OpenSpec.upto fnTableMoreSpec)) fnTableMoreUptoCard

/-- THE SECOND FORM's CARD OF 'laws.FnNewApart'. -/
def fnNewApartUptoCard : Claim7 := { stood := { row := fnNewApartUptoRow, standIns := [], harness := (true, "465d5337aa6c15ec85946dee767d1e0e47d2f4812a9e1ae442ec6b684144e1ff"), looks := false }, kinds := [], alts := [], laidByText := true, laidKinds := [.data, .data, .data], laidTests := true, laidLooks := .later }
def FnNewApartUptoCardSaid : Prop := Claim7.holds Tryd.pinned (.plain (OpenSpec.upto fnNewApartSpec)) fnNewApartUptoCard
end Rows
end Go.Proofs.YtemimomfjapgiaaDoor
