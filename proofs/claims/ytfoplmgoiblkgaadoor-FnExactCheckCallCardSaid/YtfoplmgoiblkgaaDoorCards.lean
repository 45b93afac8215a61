/-
  DERIVED. GIVEN WITH THE SEED: THE CARDS: each row of YtfoplmgoiblkgaaDoorRows.lean that lists a variable, with what it lists TIED to the program's text (the seventh form; the later family's looks); each row that meets fmt, with fmt's text TOLD by the authors' own Lean function (tested against real Go, not proved from fmt's source: count such statements apart). THE CARD IS WHAT COUNTS. Prove the row's statement (the work); the ties are given (YtfoplmgoiblkgaaDoorTie.lean); close each card by the builder's one call (the guide's Derived/Test/ToyasCard.lean, 'card_holds'). Laid BY PROGRAM, IN A SANDBOX (cutbox-door.mjs). By AI agents, Wed Nov 11 2026. No macro, syntax, notation, axiom, sorry.
-/
import Derived.Test.YtfoplmgoiblkgaaDoorRows
import GoSem.ClaimSeven
namespace Go.Proofs.YtfoplmgoiblkgaaDoor
namespace Rows

/-- THE TIED CARD OF 'laws.FnExactCheckCall'. -/
def fnExactCheckCallCard : Claim7 := { stood := { row := fnExactCheckCallRow, standIns := [], harness := (true, "068818c9df14be91abffa50f553e89669c2dcd6ceb82c64ce0380746fbe4ef75"), looks := true }, kinds := [], alts := [], laidByText := true, laidKinds := [.handle], laidTests := true, laidLooks := .later }
def FnExactCheckCallCardSaid : Prop := Claim7.holds Tryd.pinned (.plain (OpenSpec.ofChange fnExactCheckCallSpec)) fnExactCheckCallCard

/-- THE TIED CARD OF 'laws.FnCheckRight'. -/
def fnCheckRightCard : Claim7 := { stood := { row := fnCheckRightRow, standIns := [], harness := (true, "068818c9df14be91abffa50f553e89669c2dcd6ceb82c64ce0380746fbe4ef75"), looks := true }, kinds := [], alts := [], laidByText := true, laidKinds := [.handle], laidTests := true, laidLooks := .later }
def FnCheckRightCardSaid : Prop := Claim7.holds Tryd.pinned (.plain (OpenSpec.ofChange fnCheckRightSpec)) fnCheckRightCard

/-- THE TIED CARD OF 'laws.FnCheckGone'. -/
def fnCheckGoneCard : Claim7 := { stood := { row := fnCheckGoneRow, standIns := [], harness := (true, "068818c9df14be91abffa50f553e89669c2dcd6ceb82c64ce0380746fbe4ef75"), looks := true }, kinds := [], alts := [], laidByText := true, laidKinds := [.handle], laidTests := true, laidLooks := .later }
def FnCheckGoneCardSaid : Prop := Claim7.holds Tryd.pinned (.plain (OpenSpec.ofChange fnCheckGoneSpec)) fnCheckGoneCard

/-- THE TIED CARD OF 'laws.FnReadUp'. -/
def fnReadUpCard : Claim7 := { stood := { row := fnReadUpRow, standIns := [], harness := (true, "068818c9df14be91abffa50f553e89669c2dcd6ceb82c64ce0380746fbe4ef75"), looks := true }, kinds := [], alts := [], laidByText := true, laidKinds := [.handle], laidTests := true, laidLooks := .later }
def FnReadUpCardSaid : Prop := Claim7.holds Tryd.pinned (.plain (OpenSpec.ofChange fnReadUpSpec)) fnReadUpCard

/-- THE TIED CARD OF 'laws.FnCheckLess'. -/
def fnCheckLessCard : Claim7 := { stood := { row := fnCheckLessRow, standIns := [], harness := (true, "068818c9df14be91abffa50f553e89669c2dcd6ceb82c64ce0380746fbe4ef75"), looks := true }, kinds := [], alts := [], laidByText := true, laidKinds := [.handle], laidTests := true, laidLooks := .later }
def FnCheckLessCardSaid : Prop := Claim7.holds Tryd.pinned (.plain (OpenSpec.ofChange fnCheckLessSpec)) fnCheckLessCard

/-- THE TIED CARD OF 'laws.FnCheckBlind'. -/
def fnCheckBlindCard : Claim7 := { stood := { row := fnCheckBlindRow, standIns := [], harness := (true, "068818c9df14be91abffa50f553e89669c2dcd6ceb82c64ce0380746fbe4ef75"), looks := true }, kinds := [], alts := [], laidByText := true, laidKinds := [.handle], laidTests := true, laidLooks := .later }
def FnCheckBlindCardSaid : Prop := Claim7.holds Tryd.pinned (.plain (OpenSpec.ofChange fnCheckBlindSpec)) fnCheckBlindCard

/-- THE SECOND FORM's CARD OF 'laws.FnExactCheckCall'. -/
def fnExactCheckCallUptoCard : Claim7 := { stood := { row := fnExactCheckCallUptoRow, standIns := [], harness := (true, "068818c9df14be91abffa50f553e89669c2dcd6ceb82c64ce0380746fbe4ef75"), looks := true }, kinds := [], alts := [], laidByText := true, laidKinds := [.handle], laidTests := true, laidLooks := .later }
def FnExactCheckCallUptoCardSaid : Prop := Claim7.holds Tryd.pinned (.plain (OpenSpec.upto fnExactCheckCallSpec)) fnExactCheckCallUptoCard

/-- THE SECOND FORM's CARD OF 'laws.FnCheckRight'. -/
def fnCheckRightUptoCard : Claim7 := { stood := { row := fnCheckRightUptoRow, standIns := [], harness := (true, "068818c9df14be91abffa50f553e89669c2dcd6ceb82c64ce0380746fbe4ef75"), looks := true }, kinds := [], alts := [], laidByText := true, laidKinds := [.handle], laidTests := true, laidLooks := .later }
def FnCheckRightUptoCardSaid : Prop := Claim7.holds Tryd.pinned (.plain (OpenSpec.upto fnCheckRightSpec)) fnCheckRightUptoCard

/-- THE SECOND FORM's CARD OF 'laws.FnCheckGone'. -/
def fnCheckGoneUptoCard : Claim7 := { stood := { row := fnCheckGoneUptoRow, standIns := [], harness := (true, "068818c9df14be91abffa50f553e89669c2dcd6ceb82c64ce0380746fbe4ef75"), looks := true }, kinds := [], alts := [], laidByText := true, laidKinds := [.handle], laidTests := true, laidLooks := .later }
def FnCheckGoneUptoCardSaid : Prop := Claim7.holds Tryd.pinned (.plain (OpenSpec.upto fnCheckGoneSpec)) fnCheckGoneUptoCard

/-- THE SECOND FORM's CARD OF 'laws.FnReadUp'. -/
def fnReadUpUptoCard : Claim7 := { stood := { row := fnReadUpUptoRow, standIns := [], harness := (true, "068818c9df14be91abffa50f553e89669c2dcd6ceb82c64ce0380746fbe4ef75"), looks := true }, kinds := [], alts := [], laidByText := true, laidKinds := [.handle], laidTests := true, laidLooks := .later }
def FnReadUpUptoCardSaid : Prop := Claim7.holds Tryd.pinned (.plain (OpenSpec.upto fnReadUpSpec)) fnReadUpUptoCard

/-- THE SECOND FORM's CARD OF 'laws.FnCheckLess'. -/
def fnCheckLessUptoCard : Claim7 := { stood := { row := fnCheckLessUptoRow, standIns := [], harness := (true, "068818c9df14be91abffa50f553e89669c2dcd6ceb82c64ce0380746fbe4ef75"), looks := true }, kinds := [], alts := [], laidByText := true, laidKinds := [.handle], laidTests := true, laidLooks := .later }
def FnCheckLessUptoCardSaid : Prop := Claim7.holds Tryd.pinned (.plain (OpenSpec.upto fnCheckLessSpec)) fnCheckLessUptoCard

/-- THE SECOND FORM's CARD OF 'laws.FnCheckBlind'. -/
def fnCheckBlindUptoCard : Claim7 := { stood := { row := fnCheckBlindUptoRow, standIns := [], harness := (true, "068818c9df14be91abffa50f553e89669c2dcd6ceb82c64ce0380746fbe4ef75"), looks := true }, kinds := [], alts := [], laidByText := true, laidKinds := [.handle], laidTests := true, laidLooks := .later }
def FnCheckBlindUptoCardSaid : Prop := Claim7.holds Tryd.pinned (.plain (OpenSpec.upto fnCheckBlindSpec)) fnCheckBlindUptoCard
end Rows
end Go.Proofs.YtfoplmgoiblkgaaDoor
