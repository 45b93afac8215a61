/-
  NARROWER THAN 'FOR EVERY INPUT', by the rows' own cells (each row's printed sentence says how): FnAnswers: laid · FnOwnSlots: laid · FnPageOnly: laid · FnDoOk: laid · FnDoFetch: laid · FnBlindSame: laid · FnDoWrite: laid · FnDoTake: laid · FnReadTwice: laid · FnDoStore: laid · FnNumberKept: laid · FnDoRead: laid.
  DERIVED. THE GIVEN ROWS OF THIS SEAT. 12 by the template 'for every input the law returns true; each argument reads behind the call as it read before'; 0 by the template 'total and deterministic' (their statements: YtjpgffmkcmcolaaGreatDoorTotals.lean).
  GIVEN WITH THE SEED: the statements are not yours to turn. If you find one false, say at which input.
  Laid BY PROGRAM, IN A SANDBOX (cutbox-rows.mjs): the forced cells as the released guide's own fill.sh prints them over the translation 2f436670d934d5d8… (all of the seat's roots in one cut). By AI agents, Wed Nov 11 2026. No macro, syntax, notation, axiom, sorry.
-/
import Derived.Test.YtjpgffmkcmcolaaGreatDoorChecked
import GoSem.Claim
import GoSem.ClaimJoined
import GoSem.ClaimMapViews
import Derived.JoinedTies
import Derived.KernelRfl
namespace Go.Proofs.YtjpgffmkcmcolaaGreatDoor
/- THE CELL 'sum', in the pinned program and in every row, IS THE sha256 OF THE DUMP (.gsa) THAT YtjpgffmkcmcolaaGreatDoorProg.lean LOADS. Nothing in Lean hashes anything: it is a label: what it is worth is what the hold of that sum in a sandbox is worth. -/
noncomputable def Tryz.pinned : Pinned := { name := "ytjpgffmkcmcolaagreatdoor", sum := "2f436670d934d5d872dcd0d009516897eff9e6bceeb2c24156cf579bfb4b0247", checked := Tryz.checked }
namespace Rows
def none {H : Type} : Left H := { results := [], args := [] }

/- WHAT THE LISTED PACKAGE-LEVEL VARIABLES READ AS WHEN THE CALL BEGINS. Each datum BY PROGRAM (the guide's laid-datum.mjs) off the statement by which the dump's own 'gosem.cut.vars' lays the variable. In a bare row this is a premise. The card (YtjpgffmkcmcolaaGreatDoorCards.lean) ties it to the program's text. -/
def laid_errors_errorType {H : Type} : DataW H := .iface "internal/reflectlite.rtype" (.agg [.ptr (.lit (.string [101, 114, 114, 111, 114]))])

/-- 'laws.FnAnswers': WHATEVER THE INPUT: true; the input reads as it did. -/
def fnAnswersSpec : ChangeSpec := { name := "fnAnswers", fn := fun _ => fun
  | [d] => { results := [.lit (.bool true)], args := [d] }
  | _ => none }
def fnAnswersRow : OpenClaim := { program := "ytjpgffmkcmcolaagreatdoor", sum := "2f436670d934d5d872dcd0d009516897eff9e6bceeb2c24156cf579bfb4b0247", func := "loop.example/drawbar/laws.FnAnswers", spec := "fnAnswers", inPlace := ["internal/reflectlite.ValueOf", "(internal/reflectlite.Value).Type", "(internal/reflectlite.Value).IsNil", "internal/reflectlite.TypeOf", "(internal/reflectlite.Value).Elem", "(internal/reflectlite.Value).Set"], unfollowed := true, recurses := true, named := ["errors.errorType"], apart := false, laid := [("errors.errorType", laid_errors_errorType)] }
def FnAnswersSaid : Prop := fnAnswersRow.holds Tryz.pinned (OpenSpec.ofChange fnAnswersSpec)

/-- ITS FALSE NEIGHBOUR: 'it returns false'. Refute it at one input. -/
def fnAnswersWrong : ChangeSpec := { name := "fnAnswers", fn := fun _ => fun
  | [d] => { results := [.lit (.bool false)], args := [d] }
  | _ => none }
def FnAnswersWrongFalsely : Prop := fnAnswersRow.holds Tryz.pinned (OpenSpec.ofChange fnAnswersWrong)

/-- 'laws.FnOwnSlots': WHATEVER THE INPUT: true; the input reads as it did. -/
def fnOwnSlotsSpec : ChangeSpec := { name := "fnOwnSlots", fn := fun _ => fun
  | [d] => { results := [.lit (.bool true)], args := [d] }
  | _ => none }
def fnOwnSlotsRow : OpenClaim := { program := "ytjpgffmkcmcolaagreatdoor", sum := "2f436670d934d5d872dcd0d009516897eff9e6bceeb2c24156cf579bfb4b0247", func := "loop.example/drawbar/laws.FnOwnSlots", spec := "fnOwnSlots", inPlace := ["internal/reflectlite.ValueOf", "(internal/reflectlite.Value).Type", "(internal/reflectlite.Value).IsNil", "internal/reflectlite.TypeOf", "(internal/reflectlite.Value).Elem", "(internal/reflectlite.Value).Set"], unfollowed := true, recurses := true, named := ["errors.errorType"], apart := false, laid := [("errors.errorType", laid_errors_errorType)] }
def FnOwnSlotsSaid : Prop := fnOwnSlotsRow.holds Tryz.pinned (OpenSpec.ofChange fnOwnSlotsSpec)

/-- ITS FALSE NEIGHBOUR: 'it returns false'. Refute it at one input. -/
def fnOwnSlotsWrong : ChangeSpec := { name := "fnOwnSlots", fn := fun _ => fun
  | [d] => { results := [.lit (.bool false)], args := [d] }
  | _ => none }
def FnOwnSlotsWrongFalsely : Prop := fnOwnSlotsRow.holds Tryz.pinned (OpenSpec.ofChange fnOwnSlotsWrong)

/-- 'laws.FnPageOnly': WHATEVER THE INPUT: true; the input reads as it did. -/
def fnPageOnlySpec : ChangeSpec := { name := "fnPageOnly", fn := fun _ => fun
  | [d] => { results := [.lit (.bool true)], args := [d] }
  | _ => none }
def fnPageOnlyRow : OpenClaim := { program := "ytjpgffmkcmcolaagreatdoor", sum := "2f436670d934d5d872dcd0d009516897eff9e6bceeb2c24156cf579bfb4b0247", func := "loop.example/drawbar/laws.FnPageOnly", spec := "fnPageOnly", inPlace := ["internal/reflectlite.ValueOf", "(internal/reflectlite.Value).Type", "(internal/reflectlite.Value).IsNil", "internal/reflectlite.TypeOf", "(internal/reflectlite.Value).Elem", "(internal/reflectlite.Value).Set"], unfollowed := true, recurses := true, named := ["errors.errorType"], apart := false, laid := [("errors.errorType", laid_errors_errorType)] }
def FnPageOnlySaid : Prop := fnPageOnlyRow.holds Tryz.pinned (OpenSpec.ofChange fnPageOnlySpec)

/-- ITS FALSE NEIGHBOUR: 'it returns false'. Refute it at one input. -/
def fnPageOnlyWrong : ChangeSpec := { name := "fnPageOnly", fn := fun _ => fun
  | [d] => { results := [.lit (.bool false)], args := [d] }
  | _ => none }
def FnPageOnlyWrongFalsely : Prop := fnPageOnlyRow.holds Tryz.pinned (OpenSpec.ofChange fnPageOnlyWrong)

/-- 'laws.FnDoOk': WHATEVER THE INPUT: true; the input reads as it did. -/
def fnDoOkSpec : ChangeSpec := { name := "fnDoOk", fn := fun _ => fun
  | [d] => { results := [.lit (.bool true)], args := [d] }
  | _ => none }
def fnDoOkRow : OpenClaim := { program := "ytjpgffmkcmcolaagreatdoor", sum := "2f436670d934d5d872dcd0d009516897eff9e6bceeb2c24156cf579bfb4b0247", func := "loop.example/drawbar/laws.FnDoOk", spec := "fnDoOk", inPlace := ["internal/reflectlite.ValueOf", "(internal/reflectlite.Value).Type", "(internal/reflectlite.Value).IsNil", "internal/reflectlite.TypeOf", "(internal/reflectlite.Value).Elem", "(internal/reflectlite.Value).Set"], unfollowed := true, recurses := true, named := ["errors.errorType"], apart := false, laid := [("errors.errorType", laid_errors_errorType)] }
def FnDoOkSaid : Prop := fnDoOkRow.holds Tryz.pinned (OpenSpec.ofChange fnDoOkSpec)

/-- ITS FALSE NEIGHBOUR: 'it returns false'. Refute it at one input. -/
def fnDoOkWrong : ChangeSpec := { name := "fnDoOk", fn := fun _ => fun
  | [d] => { results := [.lit (.bool false)], args := [d] }
  | _ => none }
def FnDoOkWrongFalsely : Prop := fnDoOkRow.holds Tryz.pinned (OpenSpec.ofChange fnDoOkWrong)

/-- 'laws.FnDoFetch': WHATEVER THE INPUT: true; the input reads as it did. -/
def fnDoFetchSpec : ChangeSpec := { name := "fnDoFetch", fn := fun _ => fun
  | [d] => { results := [.lit (.bool true)], args := [d] }
  | _ => none }
def fnDoFetchRow : OpenClaim := { program := "ytjpgffmkcmcolaagreatdoor", sum := "2f436670d934d5d872dcd0d009516897eff9e6bceeb2c24156cf579bfb4b0247", func := "loop.example/drawbar/laws.FnDoFetch", spec := "fnDoFetch", inPlace := ["internal/reflectlite.ValueOf", "(internal/reflectlite.Value).Type", "(internal/reflectlite.Value).IsNil", "internal/reflectlite.TypeOf", "(internal/reflectlite.Value).Elem", "(internal/reflectlite.Value).Set"], unfollowed := true, recurses := true, named := ["errors.errorType"], apart := false, laid := [("errors.errorType", laid_errors_errorType)] }
def FnDoFetchSaid : Prop := fnDoFetchRow.holds Tryz.pinned (OpenSpec.ofChange fnDoFetchSpec)

/-- ITS FALSE NEIGHBOUR: 'it returns false'. Refute it at one input. -/
def fnDoFetchWrong : ChangeSpec := { name := "fnDoFetch", fn := fun _ => fun
  | [d] => { results := [.lit (.bool false)], args := [d] }
  | _ => none }
def FnDoFetchWrongFalsely : Prop := fnDoFetchRow.holds Tryz.pinned (OpenSpec.ofChange fnDoFetchWrong)

/-- 'laws.FnBlindSame': WHATEVER THE INPUT: true; the input reads as it did. -/
def fnBlindSameSpec : ChangeSpec := { name := "fnBlindSame", fn := fun _ => fun
  | [d] => { results := [.lit (.bool true)], args := [d] }
  | _ => none }
def fnBlindSameRow : OpenClaim := { program := "ytjpgffmkcmcolaagreatdoor", sum := "2f436670d934d5d872dcd0d009516897eff9e6bceeb2c24156cf579bfb4b0247", func := "loop.example/drawbar/laws.FnBlindSame", spec := "fnBlindSame", inPlace := ["internal/reflectlite.ValueOf", "(internal/reflectlite.Value).Type", "(internal/reflectlite.Value).IsNil", "internal/reflectlite.TypeOf", "(internal/reflectlite.Value).Elem", "(internal/reflectlite.Value).Set"], unfollowed := true, recurses := true, named := ["errors.errorType"], apart := false, laid := [("errors.errorType", laid_errors_errorType)] }
def FnBlindSameSaid : Prop := fnBlindSameRow.holds Tryz.pinned (OpenSpec.ofChange fnBlindSameSpec)

/-- ITS FALSE NEIGHBOUR: 'it returns false'. Refute it at one input. -/
def fnBlindSameWrong : ChangeSpec := { name := "fnBlindSame", fn := fun _ => fun
  | [d] => { results := [.lit (.bool false)], args := [d] }
  | _ => none }
def FnBlindSameWrongFalsely : Prop := fnBlindSameRow.holds Tryz.pinned (OpenSpec.ofChange fnBlindSameWrong)

/-- 'laws.FnDoWrite': WHATEVER THE INPUT: true; the input reads as it did. -/
def fnDoWriteSpec : ChangeSpec := { name := "fnDoWrite", fn := fun _ => fun
  | [d] => { results := [.lit (.bool true)], args := [d] }
  | _ => none }
def fnDoWriteRow : OpenClaim := { program := "ytjpgffmkcmcolaagreatdoor", sum := "2f436670d934d5d872dcd0d009516897eff9e6bceeb2c24156cf579bfb4b0247", func := "loop.example/drawbar/laws.FnDoWrite", spec := "fnDoWrite", inPlace := ["internal/reflectlite.ValueOf", "(internal/reflectlite.Value).Type", "(internal/reflectlite.Value).IsNil", "internal/reflectlite.TypeOf", "(internal/reflectlite.Value).Elem", "(internal/reflectlite.Value).Set"], unfollowed := true, recurses := true, named := ["errors.errorType"], apart := false, laid := [("errors.errorType", laid_errors_errorType)] }
def FnDoWriteSaid : Prop := fnDoWriteRow.holds Tryz.pinned (OpenSpec.ofChange fnDoWriteSpec)

/-- ITS FALSE NEIGHBOUR: 'it returns false'. Refute it at one input. -/
def fnDoWriteWrong : ChangeSpec := { name := "fnDoWrite", fn := fun _ => fun
  | [d] => { results := [.lit (.bool false)], args := [d] }
  | _ => none }
def FnDoWriteWrongFalsely : Prop := fnDoWriteRow.holds Tryz.pinned (OpenSpec.ofChange fnDoWriteWrong)

/-- 'laws.FnDoTake': WHATEVER THE INPUT: true; the input reads as it did. -/
def fnDoTakeSpec : ChangeSpec := { name := "fnDoTake", fn := fun _ => fun
  | [d] => { results := [.lit (.bool true)], args := [d] }
  | _ => none }
def fnDoTakeRow : OpenClaim := { program := "ytjpgffmkcmcolaagreatdoor", sum := "2f436670d934d5d872dcd0d009516897eff9e6bceeb2c24156cf579bfb4b0247", func := "loop.example/drawbar/laws.FnDoTake", spec := "fnDoTake", inPlace := ["internal/reflectlite.ValueOf", "(internal/reflectlite.Value).Type", "(internal/reflectlite.Value).IsNil", "internal/reflectlite.TypeOf", "(internal/reflectlite.Value).Elem", "(internal/reflectlite.Value).Set"], unfollowed := true, recurses := true, named := ["errors.errorType"], apart := false, laid := [("errors.errorType", laid_errors_errorType)] }
def FnDoTakeSaid : Prop := fnDoTakeRow.holds Tryz.pinned (OpenSpec.ofChange fnDoTakeSpec)

/-- ITS FALSE NEIGHBOUR: 'it returns false'. Refute it at one input. -/
def fnDoTakeWrong : ChangeSpec := { name := "fnDoTake", fn := fun _ => fun
  | [d] => { results := [.lit (.bool false)], args := [d] }
  | _ => none }
def FnDoTakeWrongFalsely : Prop := fnDoTakeRow.holds Tryz.pinned (OpenSpec.ofChange fnDoTakeWrong)

/-- 'laws.FnReadTwice': WHATEVER THE INPUT: true; the input reads as it did. -/
def fnReadTwiceSpec : ChangeSpec := { name := "fnReadTwice", fn := fun _ => fun
  | [d] => { results := [.lit (.bool true)], args := [d] }
  | _ => none }
def fnReadTwiceRow : OpenClaim := { program := "ytjpgffmkcmcolaagreatdoor", sum := "2f436670d934d5d872dcd0d009516897eff9e6bceeb2c24156cf579bfb4b0247", func := "loop.example/drawbar/laws.FnReadTwice", spec := "fnReadTwice", inPlace := ["internal/reflectlite.ValueOf", "(internal/reflectlite.Value).Type", "(internal/reflectlite.Value).IsNil", "internal/reflectlite.TypeOf", "(internal/reflectlite.Value).Elem", "(internal/reflectlite.Value).Set"], unfollowed := true, recurses := true, named := ["errors.errorType"], apart := false, laid := [("errors.errorType", laid_errors_errorType)] }
def FnReadTwiceSaid : Prop := fnReadTwiceRow.holds Tryz.pinned (OpenSpec.ofChange fnReadTwiceSpec)

/-- ITS FALSE NEIGHBOUR: 'it returns false'. Refute it at one input. -/
def fnReadTwiceWrong : ChangeSpec := { name := "fnReadTwice", fn := fun _ => fun
  | [d] => { results := [.lit (.bool false)], args := [d] }
  | _ => none }
def FnReadTwiceWrongFalsely : Prop := fnReadTwiceRow.holds Tryz.pinned (OpenSpec.ofChange fnReadTwiceWrong)

/-- 'laws.FnDoStore': WHATEVER THE INPUT: true; the input reads as it did. -/
def fnDoStoreSpec : ChangeSpec := { name := "fnDoStore", fn := fun _ => fun
  | [d] => { results := [.lit (.bool true)], args := [d] }
  | _ => none }
def fnDoStoreRow : OpenClaim := { program := "ytjpgffmkcmcolaagreatdoor", sum := "2f436670d934d5d872dcd0d009516897eff9e6bceeb2c24156cf579bfb4b0247", func := "loop.example/drawbar/laws.FnDoStore", spec := "fnDoStore", inPlace := ["internal/reflectlite.ValueOf", "(internal/reflectlite.Value).Type", "(internal/reflectlite.Value).IsNil", "internal/reflectlite.TypeOf", "(internal/reflectlite.Value).Elem", "(internal/reflectlite.Value).Set"], unfollowed := true, recurses := true, named := ["errors.errorType"], apart := false, laid := [("errors.errorType", laid_errors_errorType)] }
def FnDoStoreSaid : Prop := fnDoStoreRow.holds Tryz.pinned (OpenSpec.ofChange fnDoStoreSpec)

/-- ITS FALSE NEIGHBOUR: 'it returns false'. Refute it at one input. -/
def fnDoStoreWrong : ChangeSpec := { name := "fnDoStore", fn := fun _ => fun
  | [d] => { results := [.lit (.bool false)], args := [d] }
  | _ => none }
def FnDoStoreWrongFalsely : Prop := fnDoStoreRow.holds Tryz.pinned (OpenSpec.ofChange fnDoStoreWrong)

/-- 'laws.FnNumberKept': WHATEVER THE INPUT: true; the input reads as it did. -/
def fnNumberKeptSpec : ChangeSpec := { name := "fnNumberKept", fn := fun _ => fun
  | [d] => { results := [.lit (.bool true)], args := [d] }
  | _ => none }
def fnNumberKeptRow : OpenClaim := { program := "ytjpgffmkcmcolaagreatdoor", sum := "2f436670d934d5d872dcd0d009516897eff9e6bceeb2c24156cf579bfb4b0247", func := "loop.example/drawbar/laws.FnNumberKept", spec := "fnNumberKept", inPlace := ["internal/reflectlite.ValueOf", "(internal/reflectlite.Value).Type", "(internal/reflectlite.Value).IsNil", "internal/reflectlite.TypeOf", "(internal/reflectlite.Value).Elem", "(internal/reflectlite.Value).Set"], unfollowed := true, recurses := true, named := ["errors.errorType"], apart := false, laid := [("errors.errorType", laid_errors_errorType)] }
def FnNumberKeptSaid : Prop := fnNumberKeptRow.holds Tryz.pinned (OpenSpec.ofChange fnNumberKeptSpec)

/-- ITS FALSE NEIGHBOUR: 'it returns false'. Refute it at one input. -/
def fnNumberKeptWrong : ChangeSpec := { name := "fnNumberKept", fn := fun _ => fun
  | [d] => { results := [.lit (.bool false)], args := [d] }
  | _ => none }
def FnNumberKeptWrongFalsely : Prop := fnNumberKeptRow.holds Tryz.pinned (OpenSpec.ofChange fnNumberKeptWrong)

/-- 'laws.FnDoRead': WHATEVER THE INPUT: true; the input reads as it did. -/
def fnDoReadSpec : ChangeSpec := { name := "fnDoRead", fn := fun _ => fun
  | [d] => { results := [.lit (.bool true)], args := [d] }
  | _ => none }
def fnDoReadRow : OpenClaim := { program := "ytjpgffmkcmcolaagreatdoor", sum := "2f436670d934d5d872dcd0d009516897eff9e6bceeb2c24156cf579bfb4b0247", func := "loop.example/drawbar/laws.FnDoRead", spec := "fnDoRead", inPlace := ["internal/reflectlite.ValueOf", "(internal/reflectlite.Value).Type", "(internal/reflectlite.Value).IsNil", "internal/reflectlite.TypeOf", "(internal/reflectlite.Value).Elem", "(internal/reflectlite.Value).Set"], unfollowed := true, recurses := true, named := ["errors.errorType"], apart := false, laid := [("errors.errorType", laid_errors_errorType)] }
def FnDoReadSaid : Prop := fnDoReadRow.holds Tryz.pinned (OpenSpec.ofChange fnDoReadSpec)

/-- ITS FALSE NEIGHBOUR: 'it returns false'. Refute it at one input. -/
def fnDoReadWrong : ChangeSpec := { name := "fnDoRead", fn := fun _ => fun
  | [d] => { results := [.lit (.bool false)], args := [d] }
  | _ => none }
def FnDoReadWrongFalsely : Prop := fnDoReadRow.holds Tryz.pinned (OpenSpec.ofChange fnDoReadWrong)

/- THE SECOND FORM. 'bulk': how many values and letters a reading holds, each counted each time it is reached (what is shared counts as often as it is met; a slice's spare places count too). A statement '..UptoSaid' is the law's where the arguments, and the package variables that the reading takes, are together of bulk at most 1048576: NARROWER than '..Said'. Prove '..Said' where nothing that the law and all that it calls make is longer than what came in: it says more and counts as full. Else prove '..UptoSaid'. A law counts once. -/
mutual
def uptoBulk {H : Type} : DataW H → Nat
  | .lit (.string bytes) => bytes.length + 1
  | .lit _ => 1
  | .nil => 1
  | .ptr d => uptoBulk d + 1
  | .slice elems spare => uptoBulkAll elems + uptoBulkAll spare + 1
  | .agg parts => uptoBulkAll parts + 1
  | .iface _ d => uptoBulk d + 1
  | .map entries => uptoBulkEntries entries + 1
  | .held _ => 1
def uptoBulkAll {H : Type} : List (DataW H) → Nat
  | [] => 0
  | d :: r => uptoBulk d + uptoBulkAll r
def uptoBulkEntries {H : Type} : List (Lit × DataW H) → Nat
  | [] => 0
  | x :: r => uptoBulkEntry x + uptoBulkEntries r
def uptoBulkEntry {H : Type} : Lit × DataW H → Nat
  | (.string bytes, d) => bytes.length + uptoBulk d + 1
  | (_, d) => uptoBulk d + 1
 end
def uptoSmall : (H : Type) → List (DataW H) → Bool := fun _ ds => decide (uptoBulkAll ds ≤ 1048576)
def OpenSpec.upto (s : _root_.Go.ChangeSpec) : _root_.Go.OpenSpec := { _root_.Go.OpenSpec.ofChange s with cond := some uptoSmall }

/-- 'laws.FnAnswers', WHERE WHAT IT READS IS OF BULK AT MOST 1048576: true; the input reads as it did. -/
def fnAnswersUptoRow : OpenClaim := { program := "ytjpgffmkcmcolaagreatdoor", sum := "2f436670d934d5d872dcd0d009516897eff9e6bceeb2c24156cf579bfb4b0247", func := "loop.example/drawbar/laws.FnAnswers", spec := "fnAnswers", inPlace := ["internal/reflectlite.ValueOf", "(internal/reflectlite.Value).Type", "(internal/reflectlite.Value).IsNil", "internal/reflectlite.TypeOf", "(internal/reflectlite.Value).Elem", "(internal/reflectlite.Value).Set"], unfollowed := true, recurses := true, named := ["errors.errorType"], apart := false, laid := [("errors.errorType", laid_errors_errorType)], narrowed := true }
def FnAnswersUptoSaid : Prop := fnAnswersUptoRow.holds Tryz.pinned (OpenSpec.upto fnAnswersSpec)

/-- 'laws.FnOwnSlots', WHERE WHAT IT READS IS OF BULK AT MOST 1048576: true; the input reads as it did. -/
def fnOwnSlotsUptoRow : OpenClaim := { program := "ytjpgffmkcmcolaagreatdoor", sum := "2f436670d934d5d872dcd0d009516897eff9e6bceeb2c24156cf579bfb4b0247", func := "loop.example/drawbar/laws.FnOwnSlots", spec := "fnOwnSlots", inPlace := ["internal/reflectlite.ValueOf", "(internal/reflectlite.Value).Type", "(internal/reflectlite.Value).IsNil", "internal/reflectlite.TypeOf", "(internal/reflectlite.Value).Elem", "(internal/reflectlite.Value).Set"], unfollowed := true, recurses := true, named := ["errors.errorType"], apart := false, laid := [("errors.errorType", laid_errors_errorType)], narrowed := true }
def FnOwnSlotsUptoSaid : Prop := fnOwnSlotsUptoRow.holds Tryz.pinned (OpenSpec.upto fnOwnSlotsSpec)

/-- 'laws.FnPageOnly', WHERE WHAT IT READS IS OF BULK AT MOST 1048576: true; the input reads as it did. -/
def fnPageOnlyUptoRow : OpenClaim := { program := "ytjpgffmkcmcolaagreatdoor", sum := "2f436670d934d5d872dcd0d009516897eff9e6bceeb2c24156cf579bfb4b0247", func := "loop.example/drawbar/laws.FnPageOnly", spec := "fnPageOnly", inPlace := ["internal/reflectlite.ValueOf", "(internal/reflectlite.Value).Type", "(internal/reflectlite.Value).IsNil", "internal/reflectlite.TypeOf", "(internal/reflectlite.Value).Elem", "(internal/reflectlite.Value).Set"], unfollowed := true, recurses := true, named := ["errors.errorType"], apart := false, laid := [("errors.errorType", laid_errors_errorType)], narrowed := true }
def FnPageOnlyUptoSaid : Prop := fnPageOnlyUptoRow.holds Tryz.pinned (OpenSpec.upto fnPageOnlySpec)

/-- 'laws.FnDoOk', WHERE WHAT IT READS IS OF BULK AT MOST 1048576: true; the input reads as it did. -/
def fnDoOkUptoRow : OpenClaim := { program := "ytjpgffmkcmcolaagreatdoor", sum := "2f436670d934d5d872dcd0d009516897eff9e6bceeb2c24156cf579bfb4b0247", func := "loop.example/drawbar/laws.FnDoOk", spec := "fnDoOk", inPlace := ["internal/reflectlite.ValueOf", "(internal/reflectlite.Value).Type", "(internal/reflectlite.Value).IsNil", "internal/reflectlite.TypeOf", "(internal/reflectlite.Value).Elem", "(internal/reflectlite.Value).Set"], unfollowed := true, recurses := true, named := ["errors.errorType"], apart := false, laid := [("errors.errorType", laid_errors_errorType)], narrowed := true }
def FnDoOkUptoSaid : Prop := fnDoOkUptoRow.holds Tryz.pinned (OpenSpec.upto fnDoOkSpec)

/-- 'laws.FnDoFetch', WHERE WHAT IT READS IS OF BULK AT MOST 1048576: true; the input reads as it did. -/
def fnDoFetchUptoRow : OpenClaim := { program := "ytjpgffmkcmcolaagreatdoor", sum := "2f436670d934d5d872dcd0d009516897eff9e6bceeb2c24156cf579bfb4b0247", func := "loop.example/drawbar/laws.FnDoFetch", spec := "fnDoFetch", inPlace := ["internal/reflectlite.ValueOf", "(internal/reflectlite.Value).Type", "(internal/reflectlite.Value).IsNil", "internal/reflectlite.TypeOf", "(internal/reflectlite.Value).Elem", "(internal/reflectlite.Value).Set"], unfollowed := true, recurses := true, named := ["errors.errorType"], apart := false, laid := [("errors.errorType", laid_errors_errorType)], narrowed := true }
def FnDoFetchUptoSaid : Prop := fnDoFetchUptoRow.holds Tryz.pinned (OpenSpec.upto fnDoFetchSpec)

/-- 'laws.FnBlindSame', WHERE WHAT IT READS IS OF BULK AT MOST 1048576: true; the input reads as it did. -/
def fnBlindSameUptoRow : OpenClaim := { program := "ytjpgffmkcmcolaagreatdoor", sum := "2f436670d934d5d872dcd0d009516897eff9e6bceeb2c24156cf579bfb4b0247", func := "loop.example/drawbar/laws.FnBlindSame", spec := "fnBlindSame", inPlace := ["internal/reflectlite.ValueOf", "(internal/reflectlite.Value).Type", "(internal/reflectlite.Value).IsNil", "internal/reflectlite.TypeOf", "(internal/reflectlite.Value).Elem", "(internal/reflectlite.Value).Set"], unfollowed := true, recurses := true, named := ["errors.errorType"], apart := false, laid := [("errors.errorType", laid_errors_errorType)], narrowed := true }
def FnBlindSameUptoSaid : Prop := fnBlindSameUptoRow.holds Tryz.pinned (OpenSpec.upto fnBlindSameSpec)

/-- 'laws.FnDoWrite', WHERE WHAT IT READS IS OF BULK AT MOST 1048576: true; the input reads as it did. -/
def fnDoWriteUptoRow : OpenClaim := { program := "ytjpgffmkcmcolaagreatdoor", sum := "2f436670d934d5d872dcd0d009516897eff9e6bceeb2c24156cf579bfb4b0247", func := "loop.example/drawbar/laws.FnDoWrite", spec := "fnDoWrite", inPlace := ["internal/reflectlite.ValueOf", "(internal/reflectlite.Value).Type", "(internal/reflectlite.Value).IsNil", "internal/reflectlite.TypeOf", "(internal/reflectlite.Value).Elem", "(internal/reflectlite.Value).Set"], unfollowed := true, recurses := true, named := ["errors.errorType"], apart := false, laid := [("errors.errorType", laid_errors_errorType)], narrowed := true }
def FnDoWriteUptoSaid : Prop := fnDoWriteUptoRow.holds Tryz.pinned (OpenSpec.upto fnDoWriteSpec)

/-- 'laws.FnDoTake', WHERE WHAT IT READS IS OF BULK AT MOST 1048576: true; the input reads as it did. -/
def fnDoTakeUptoRow : OpenClaim := { program := "ytjpgffmkcmcolaagreatdoor", sum := "2f436670d934d5d872dcd0d009516897eff9e6bceeb2c24156cf579bfb4b0247", func := "loop.example/drawbar/laws.FnDoTake", spec := "fnDoTake", inPlace := ["internal/reflectlite.ValueOf", "(internal/reflectlite.Value).Type", "(internal/reflectlite.Value).IsNil", "internal/reflectlite.TypeOf", "(internal/reflectlite.Value).Elem", "(internal/reflectlite.Value).Set"], unfollowed := true, recurses := true, named := ["errors.errorType"], apart := false, laid := [("errors.errorType", laid_errors_errorType)], narrowed := true }
def FnDoTakeUptoSaid : Prop := fnDoTakeUptoRow.holds Tryz.pinned (OpenSpec.upto fnDoTakeSpec)

/-- 'laws.FnReadTwice', WHERE WHAT IT READS IS OF BULK AT MOST 1048576: true; the input reads as it did. -/
def fnReadTwiceUptoRow : OpenClaim := { program := "ytjpgffmkcmcolaagreatdoor", sum := "2f436670d934d5d872dcd0d009516897eff9e6bceeb2c24156cf579bfb4b0247", func := "loop.example/drawbar/laws.FnReadTwice", spec := "fnReadTwice", inPlace := ["internal/reflectlite.ValueOf", "(internal/reflectlite.Value).Type", "(internal/reflectlite.Value).IsNil", "internal/reflectlite.TypeOf", "(internal/reflectlite.Value).Elem", "(internal/reflectlite.Value).Set"], unfollowed := true, recurses := true, named := ["errors.errorType"], apart := false, laid := [("errors.errorType", laid_errors_errorType)], narrowed := true }
def FnReadTwiceUptoSaid : Prop := fnReadTwiceUptoRow.holds Tryz.pinned (OpenSpec.upto fnReadTwiceSpec)

/-- 'laws.FnDoStore', WHERE WHAT IT READS IS OF BULK AT MOST 1048576: true; the input reads as it did. -/
def fnDoStoreUptoRow : OpenClaim := { program := "ytjpgffmkcmcolaagreatdoor", sum := "2f436670d934d5d872dcd0d009516897eff9e6bceeb2c24156cf579bfb4b0247", func := "loop.example/drawbar/laws.FnDoStore", spec := "fnDoStore", inPlace := ["internal/reflectlite.ValueOf", "(internal/reflectlite.Value).Type", "(internal/reflectlite.Value).IsNil", "internal/reflectlite.TypeOf", "(internal/reflectlite.Value).Elem", "(internal/reflectlite.Value).Set"], unfollowed := true, recurses := true, named := ["errors.errorType"], apart := false, laid := [("errors.errorType", laid_errors_errorType)], narrowed := true }
def FnDoStoreUptoSaid : Prop := fnDoStoreUptoRow.holds Tryz.pinned (OpenSpec.upto fnDoStoreSpec)

/-- 'laws.FnNumberKept', WHERE WHAT IT READS IS OF BULK AT MOST 1048576: true; the input reads as it did. -/
def fnNumberKeptUptoRow : OpenClaim := { program := "ytjpgffmkcmcolaagreatdoor", sum := "2f436670d934d5d872dcd0d009516897eff9e6bceeb2c24156cf579bfb4b0247", func := "loop.example/drawbar/laws.FnNumberKept", spec := "fnNumberKept", inPlace := ["internal/reflectlite.ValueOf", "(internal/reflectlite.Value).Type", "(internal/reflectlite.Value).IsNil", "internal/reflectlite.TypeOf", "(internal/reflectlite.Value).Elem", "(internal/reflectlite.Value).Set"], unfollowed := true, recurses := true, named := ["errors.errorType"], apart := false, laid := [("errors.errorType", laid_errors_errorType)], narrowed := true }
def FnNumberKeptUptoSaid : Prop := fnNumberKeptUptoRow.holds Tryz.pinned (OpenSpec.upto fnNumberKeptSpec)

/-- 'laws.FnDoRead', WHERE WHAT IT READS IS OF BULK AT MOST 1048576: true; the input reads as it did. -/
def fnDoReadUptoRow : OpenClaim := { program := "ytjpgffmkcmcolaagreatdoor", sum := "2f436670d934d5d872dcd0d009516897eff9e6bceeb2c24156cf579bfb4b0247", func := "loop.example/drawbar/laws.FnDoRead", spec := "fnDoRead", inPlace := ["internal/reflectlite.ValueOf", "(internal/reflectlite.Value).Type", "(internal/reflectlite.Value).IsNil", "internal/reflectlite.TypeOf", "(internal/reflectlite.Value).Elem", "(internal/reflectlite.Value).Set"], unfollowed := true, recurses := true, named := ["errors.errorType"], apart := false, laid := [("errors.errorType", laid_errors_errorType)], narrowed := true }
def FnDoReadUptoSaid : Prop := fnDoReadUptoRow.holds Tryz.pinned (OpenSpec.upto fnDoReadSpec)

end Rows
end Go.Proofs.YtjpgffmkcmcolaaGreatDoor
