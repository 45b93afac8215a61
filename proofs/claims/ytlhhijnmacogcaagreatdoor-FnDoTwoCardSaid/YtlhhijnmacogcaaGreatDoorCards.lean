/-
  DERIVED. GIVEN WITH THE SEED: THE CARDS: each row of YtlhhijnmacogcaaGreatDoorRows.lean that lists a variable, with what it lists TIED to the program's text (the seventh form; the later family's looks); each row that meets fmt, with fmt's text TOLD by the authors' own Lean function (tested against real Go, not proved from fmt's source: count such statements apart). THE CARD IS WHAT COUNTS. Prove the row's statement (the work); the ties are given (YtlhhijnmacogcaaGreatDoorTie.lean); close each card by the builder's one call (the guide's Derived/Test/ToyasCard.lean, 'card_holds'). Laid BY PROGRAM, IN A SANDBOX (cutbox-door.mjs). By AI agents, Wed Nov 11 2026. No macro, syntax, notation, axiom, sorry.
-/
import Derived.Test.YtlhhijnmacogcaaGreatDoorRows
import GoSem.ClaimSeven
namespace Go.Proofs.YtlhhijnmacogcaaGreatDoor
namespace Rows

/-- THE TIED CARD OF 'laws.FnSendTwo'. -/
def fnSendTwoCard : Claim7 := { stood := { row := fnSendTwoRow, standIns := [], harness := (true, "0e3e13edc27541df9cac9fe7aed5c101b3bdbc0667b2e68bb12f3b8ac941e3d3"), looks := true }, kinds := [], alts := [], laidByText := true, laidKinds := [.handle], laidTests := true, laidLooks := .later }
def FnSendTwoCardSaid : Prop := Claim7.holds Tryz.pinned (.plain (OpenSpec.ofChange fnSendTwoSpec)) fnSendTwoCard

/-- THE TIED CARD OF 'laws.FnStoreFetch'. -/
def fnStoreFetchCard : Claim7 := { stood := { row := fnStoreFetchRow, standIns := [], harness := (true, "0e3e13edc27541df9cac9fe7aed5c101b3bdbc0667b2e68bb12f3b8ac941e3d3"), looks := true }, kinds := [], alts := [], laidByText := true, laidKinds := [.handle], laidTests := true, laidLooks := .later }
def FnStoreFetchCardSaid : Prop := Claim7.holds Tryz.pinned (.plain (OpenSpec.ofChange fnStoreFetchSpec)) fnStoreFetchCard

/-- THE TIED CARD OF 'laws.FnTakeSent'. -/
def fnTakeSentCard : Claim7 := { stood := { row := fnTakeSentRow, standIns := [], harness := (true, "0e3e13edc27541df9cac9fe7aed5c101b3bdbc0667b2e68bb12f3b8ac941e3d3"), looks := true }, kinds := [], alts := [], laidByText := true, laidKinds := [.handle], laidTests := true, laidLooks := .later }
def FnTakeSentCardSaid : Prop := Claim7.holds Tryz.pinned (.plain (OpenSpec.ofChange fnTakeSentSpec)) fnTakeSentCard

/-- THE TIED CARD OF 'laws.FnCopySame'. -/
def fnCopySameCard : Claim7 := { stood := { row := fnCopySameRow, standIns := [], harness := (true, "0e3e13edc27541df9cac9fe7aed5c101b3bdbc0667b2e68bb12f3b8ac941e3d3"), looks := true }, kinds := [], alts := [], laidByText := true, laidKinds := [.handle], laidTests := true, laidLooks := .later }
def FnCopySameCardSaid : Prop := Claim7.holds Tryz.pinned (.plain (OpenSpec.ofChange fnCopySameSpec)) fnCopySameCard

/-- THE TIED CARD OF 'laws.FnDoGate'. -/
def fnDoGateCard : Claim7 := { stood := { row := fnDoGateRow, standIns := [], harness := (true, "0e3e13edc27541df9cac9fe7aed5c101b3bdbc0667b2e68bb12f3b8ac941e3d3"), looks := true }, kinds := [], alts := [], laidByText := true, laidKinds := [.handle], laidTests := true, laidLooks := .later }
def FnDoGateCardSaid : Prop := Claim7.holds Tryz.pinned (.plain (OpenSpec.ofChange fnDoGateSpec)) fnDoGateCard

/-- THE TIED CARD OF 'laws.FnDoRefused'. -/
def fnDoRefusedCard : Claim7 := { stood := { row := fnDoRefusedRow, standIns := [], harness := (true, "0e3e13edc27541df9cac9fe7aed5c101b3bdbc0667b2e68bb12f3b8ac941e3d3"), looks := true }, kinds := [], alts := [], laidByText := true, laidKinds := [.handle], laidTests := true, laidLooks := .later }
def FnDoRefusedCardSaid : Prop := Claim7.holds Tryz.pinned (.plain (OpenSpec.ofChange fnDoRefusedSpec)) fnDoRefusedCard

/-- THE TIED CARD OF 'laws.FnDoTwo'. -/
def fnDoTwoCard : Claim7 := { stood := { row := fnDoTwoRow, standIns := [], harness := (true, "0e3e13edc27541df9cac9fe7aed5c101b3bdbc0667b2e68bb12f3b8ac941e3d3"), looks := true }, kinds := [], alts := [], laidByText := true, laidKinds := [.handle], laidTests := true, laidLooks := .later }
def FnDoTwoCardSaid : Prop := Claim7.holds Tryz.pinned (.plain (OpenSpec.ofChange fnDoTwoSpec)) fnDoTwoCard

/-- THE TIED CARD OF 'laws.FnGateTwice'. -/
def fnGateTwiceCard : Claim7 := { stood := { row := fnGateTwiceRow, standIns := [], harness := (true, "0e3e13edc27541df9cac9fe7aed5c101b3bdbc0667b2e68bb12f3b8ac941e3d3"), looks := true }, kinds := [], alts := [], laidByText := true, laidKinds := [.handle], laidTests := true, laidLooks := .later }
def FnGateTwiceCardSaid : Prop := Claim7.holds Tryz.pinned (.plain (OpenSpec.ofChange fnGateTwiceSpec)) fnGateTwiceCard

/-- THE TIED CARD OF 'laws.FnWeakChain'. -/
def fnWeakChainCard : Claim7 := { stood := { row := fnWeakChainRow, standIns := [], harness := (true, "0e3e13edc27541df9cac9fe7aed5c101b3bdbc0667b2e68bb12f3b8ac941e3d3"), looks := true }, kinds := [], alts := [], laidByText := true, laidKinds := [.handle], laidTests := true, laidLooks := .later }
def FnWeakChainCardSaid : Prop := Claim7.holds Tryz.pinned (.plain (OpenSpec.ofChange fnWeakChainSpec)) fnWeakChainCard

/-- THE TIED CARD OF 'laws.FnWriteTwo'. -/
def fnWriteTwoCard : Claim7 := { stood := { row := fnWriteTwoRow, standIns := [], harness := (true, "0e3e13edc27541df9cac9fe7aed5c101b3bdbc0667b2e68bb12f3b8ac941e3d3"), looks := true }, kinds := [], alts := [], laidByText := true, laidKinds := [.handle], laidTests := true, laidLooks := .later }
def FnWriteTwoCardSaid : Prop := Claim7.holds Tryz.pinned (.plain (OpenSpec.ofChange fnWriteTwoSpec)) fnWriteTwoCard

/-- THE TIED CARD OF 'laws.FnDoRenew'. -/
def fnDoRenewCard : Claim7 := { stood := { row := fnDoRenewRow, standIns := [], harness := (true, "0e3e13edc27541df9cac9fe7aed5c101b3bdbc0667b2e68bb12f3b8ac941e3d3"), looks := true }, kinds := [], alts := [], laidByText := true, laidKinds := [.handle], laidTests := true, laidLooks := .later }
def FnDoRenewCardSaid : Prop := Claim7.holds Tryz.pinned (.plain (OpenSpec.ofChange fnDoRenewSpec)) fnDoRenewCard

/-- THE TIED CARD OF 'laws.FnRenewTwice'. -/
def fnRenewTwiceCard : Claim7 := { stood := { row := fnRenewTwiceRow, standIns := [], harness := (true, "0e3e13edc27541df9cac9fe7aed5c101b3bdbc0667b2e68bb12f3b8ac941e3d3"), looks := true }, kinds := [], alts := [], laidByText := true, laidKinds := [.handle], laidTests := true, laidLooks := .later }
def FnRenewTwiceCardSaid : Prop := Claim7.holds Tryz.pinned (.plain (OpenSpec.ofChange fnRenewTwiceSpec)) fnRenewTwiceCard

/-- THE SECOND FORM's CARD OF 'laws.FnSendTwo'. -/
def fnSendTwoUptoCard : Claim7 := { stood := { row := fnSendTwoUptoRow, standIns := [], harness := (true, "0e3e13edc27541df9cac9fe7aed5c101b3bdbc0667b2e68bb12f3b8ac941e3d3"), looks := true }, kinds := [], alts := [], laidByText := true, laidKinds := [.handle], laidTests := true, laidLooks := .later }
def FnSendTwoUptoCardSaid : Prop := Claim7.holds Tryz.pinned (.plain (OpenSpec.upto fnSendTwoSpec)) fnSendTwoUptoCard

/-- THE SECOND FORM's CARD OF 'laws.FnStoreFetch'. -/
def fnStoreFetchUptoCard : Claim7 := { stood := { row := fnStoreFetchUptoRow, standIns := [], harness := (true, "0e3e13edc27541df9cac9fe7aed5c101b3bdbc0667b2e68bb12f3b8ac941e3d3"), looks := true }, kinds := [], alts := [], laidByText := true, laidKinds := [.handle], laidTests := true, laidLooks := .later }
def FnStoreFetchUptoCardSaid : Prop := Claim7.holds Tryz.pinned (.plain (OpenSpec.upto fnStoreFetchSpec)) fnStoreFetchUptoCard

/-- THE SECOND FORM's CARD OF 'laws.FnTakeSent'. -/
def fnTakeSentUptoCard : Claim7 := { stood := { row := fnTakeSentUptoRow, standIns := [], harness := (true, "0e3e13edc27541df9cac9fe7aed5c101b3bdbc0667b2e68bb12f3b8ac941e3d3"), looks := true }, kinds := [], alts := [], laidByText := true, laidKinds := [.handle], laidTests := true, laidLooks := .later }
def FnTakeSentUptoCardSaid : Prop := Claim7.holds Tryz.pinned (.plain (OpenSpec.upto fnTakeSentSpec)) fnTakeSentUptoCard

/-- THE SECOND FORM's CARD OF 'laws.FnCopySame'. -/
def fnCopySameUptoCard : Claim7 := { stood := { row := fnCopySameUptoRow, standIns := [], harness := (true, "0e3e13edc27541df9cac9fe7aed5c101b3bdbc0667b2e68bb12f3b8ac941e3d3"), looks := true }, kinds := [], alts := [], laidByText := true, laidKinds := [.handle], laidTests := true, laidLooks := .later }
def FnCopySameUptoCardSaid : Prop := Claim7.holds Tryz.pinned (.plain (OpenSpec.upto fnCopySameSpec)) fnCopySameUptoCard

/-- THE SECOND FORM's CARD OF 'laws.FnDoGate'. -/
def fnDoGateUptoCard : Claim7 := { stood := { row := fnDoGateUptoRow, standIns := [], harness := (true, "0e3e13edc27541df9cac9fe7aed5c101b3bdbc0667b2e68bb12f3b8ac941e3d3"), looks := true }, kinds := [], alts := [], laidByText := true, laidKinds := [.handle], laidTests := true, laidLooks := .later }
def FnDoGateUptoCardSaid : Prop := Claim7.holds Tryz.pinned (.plain (OpenSpec.upto fnDoGateSpec)) fnDoGateUptoCard

/-- THE SECOND FORM's CARD OF 'laws.FnDoRefused'. -/
def fnDoRefusedUptoCard : Claim7 := { stood := { row := fnDoRefusedUptoRow, standIns := [], harness := (true, "0e3e13edc27541df9cac9fe7aed5c101b3bdbc0667b2e68bb12f3b8ac941e3d3"), looks := true }, kinds := [], alts := [], laidByText := true, laidKinds := [.handle], laidTests := true, laidLooks := .later }
def FnDoRefusedUptoCardSaid : Prop := Claim7.holds Tryz.pinned (.plain (OpenSpec.upto fnDoRefusedSpec)) fnDoRefusedUptoCard

/-- THE SECOND FORM's CARD OF 'laws.FnDoTwo'. -/
def fnDoTwoUptoCard : Claim7 := { stood := { row := fnDoTwoUptoRow, standIns := [], harness := (true, "0e3e13edc27541df9cac9fe7aed5c101b3bdbc0667b2e68bb12f3b8ac941e3d3"), looks := true }, kinds := [], alts := [], laidByText := true, laidKinds := [.handle], laidTests := true, laidLooks := .later }
def FnDoTwoUptoCardSaid : Prop := Claim7.holds Tryz.pinned (.plain (OpenSpec.upto fnDoTwoSpec)) fnDoTwoUptoCard

/-- THE SECOND FORM's CARD OF 'laws.FnGateTwice'. -/
def fnGateTwiceUptoCard : Claim7 := { stood := { row := fnGateTwiceUptoRow, standIns := [], harness := (true, "0e3e13edc27541df9cac9fe7aed5c101b3bdbc0667b2e68bb12f3b8ac941e3d3"), looks := true }, kinds := [], alts := [], laidByText := true, laidKinds := [.handle], laidTests := true, laidLooks := .later }
def FnGateTwiceUptoCardSaid : Prop := Claim7.holds Tryz.pinned (.plain (OpenSpec.upto fnGateTwiceSpec)) fnGateTwiceUptoCard

/-- THE SECOND FORM's CARD OF 'laws.FnWeakChain'. -/
def fnWeakChainUptoCard : Claim7 := { stood := { row := fnWeakChainUptoRow, standIns := [], harness := (true, "0e3e13edc27541df9cac9fe7aed5c101b3bdbc0667b2e68bb12f3b8ac941e3d3"), looks := true }, kinds := [], alts := [], laidByText := true, laidKinds := [.handle], laidTests := true, laidLooks := .later }
def FnWeakChainUptoCardSaid : Prop := Claim7.holds Tryz.pinned (.plain (OpenSpec.upto fnWeakChainSpec)) fnWeakChainUptoCard

/-- THE SECOND FORM's CARD OF 'laws.FnWriteTwo'. -/
def fnWriteTwoUptoCard : Claim7 := { stood := { row := fnWriteTwoUptoRow, standIns := [], harness := (true, "0e3e13edc27541df9cac9fe7aed5c101b3bdbc0667b2e68bb12f3b8ac941e3d3"), looks := true }, kinds := [], alts := [], laidByText := true, laidKinds := [.handle], laidTests := true, laidLooks := .later }
def FnWriteTwoUptoCardSaid : Prop := Claim7.holds Tryz.pinned (.plain (OpenSpec.upto fnWriteTwoSpec)) fnWriteTwoUptoCard

/-- THE SECOND FORM's CARD OF 'laws.FnDoRenew'. -/
def fnDoRenewUptoCard : Claim7 := { stood := { row := fnDoRenewUptoRow, standIns := [], harness := (true, "0e3e13edc27541df9cac9fe7aed5c101b3bdbc0667b2e68bb12f3b8ac941e3d3"), looks := true }, kinds := [], alts := [], laidByText := true, laidKinds := [.handle], laidTests := true, laidLooks := .later }
def FnDoRenewUptoCardSaid : Prop := Claim7.holds Tryz.pinned (.plain (OpenSpec.upto fnDoRenewSpec)) fnDoRenewUptoCard

/-- THE SECOND FORM's CARD OF 'laws.FnRenewTwice'. -/
def fnRenewTwiceUptoCard : Claim7 := { stood := { row := fnRenewTwiceUptoRow, standIns := [], harness := (true, "0e3e13edc27541df9cac9fe7aed5c101b3bdbc0667b2e68bb12f3b8ac941e3d3"), looks := true }, kinds := [], alts := [], laidByText := true, laidKinds := [.handle], laidTests := true, laidLooks := .later }
def FnRenewTwiceUptoCardSaid : Prop := Claim7.holds Tryz.pinned (.plain (OpenSpec.upto fnRenewTwiceSpec)) fnRenewTwiceUptoCard
end Rows
end Go.Proofs.YtlhhijnmacogcaaGreatDoor
