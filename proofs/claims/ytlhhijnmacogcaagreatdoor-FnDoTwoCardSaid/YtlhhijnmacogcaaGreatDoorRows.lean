/-
  NARROWER THAN 'FOR EVERY INPUT', by the rows' own cells (each row's printed sentence says how): FnSendTwo: laid · FnStoreFetch: laid · FnTakeSent: laid · FnCopySame: laid · FnDoGate: laid · FnDoRefused: laid · FnDoTwo: laid · FnGateTwice: laid · FnWeakChain: laid · FnWriteTwo: laid · FnDoRenew: laid · FnRenewTwice: laid.
  DERIVED. THE GIVEN ROWS OF THIS SEAT. 12 by the template 'for every input the law returns true; each argument reads behind the call as it read before'; 0 by the template 'total and deterministic' (their statements: YtlhhijnmacogcaaGreatDoorTotals.lean).
  GIVEN WITH THE SEED: the statements are not yours to turn. If you find one false, say at which input.
  Laid BY PROGRAM, IN A SANDBOX (cutbox-rows.mjs): the forced cells as the released guide's own fill.sh prints them over the translation e10e409e576f4872… (all of the seat's roots in one cut). By AI agents, Wed Nov 11 2026. No macro, syntax, notation, axiom, sorry.
-/
import Derived.Test.YtlhhijnmacogcaaGreatDoorChecked
import GoSem.Claim
import GoSem.ClaimJoined
import GoSem.ClaimMapViews
import Derived.JoinedTies
import Derived.KernelRfl
namespace Go.Proofs.YtlhhijnmacogcaaGreatDoor
/- THE CELL 'sum', in the pinned program and in every row, IS THE sha256 OF THE DUMP (.gsa) THAT YtlhhijnmacogcaaGreatDoorProg.lean LOADS. Nothing in Lean hashes anything: it is a label: what it is worth is what the hold of that sum in a sandbox is worth. -/
noncomputable def Tryz.pinned : Pinned := { name := "ytlhhijnmacogcaagreatdoor", sum := "e10e409e576f48722a36a338e822948beaa7ac49799bc87206ecf307728f353b", checked := Tryz.checked }
namespace Rows
def none {H : Type} : Left H := { results := [], args := [] }

/- WHAT THE LISTED PACKAGE-LEVEL VARIABLES READ AS WHEN THE CALL BEGINS. Each datum BY PROGRAM (the guide's laid-datum.mjs) off the statement by which the dump's own 'gosem.cut.vars' lays the variable. In a bare row this is a premise. The card (YtlhhijnmacogcaaGreatDoorCards.lean) ties it to the program's text. -/
def laid_errors_errorType {H : Type} : DataW H := .iface "internal/reflectlite.rtype" (.agg [.ptr (.lit (.string [101, 114, 114, 111, 114]))])

/-- 'laws.FnSendTwo': WHATEVER THE INPUT: true; the input reads as it did. -/
def fnSendTwoSpec : ChangeSpec := { name := "fnSendTwo", fn := fun _ => fun
  | [d1, d2] => { results := [.lit (.bool true)], args := [d1, d2] }
  | _ => none }
def fnSendTwoRow : OpenClaim := { program := "ytlhhijnmacogcaagreatdoor", sum := "e10e409e576f48722a36a338e822948beaa7ac49799bc87206ecf307728f353b", func := "loop.example/drawbar/laws.FnSendTwo", spec := "fnSendTwo", inPlace := ["internal/reflectlite.ValueOf", "(internal/reflectlite.Value).Type", "(internal/reflectlite.Value).IsNil", "internal/reflectlite.TypeOf", "(internal/reflectlite.Value).Elem", "(internal/reflectlite.Value).Set"], unfollowed := true, recurses := true, named := ["errors.errorType"], apart := false, laid := [("errors.errorType", laid_errors_errorType)] }
def FnSendTwoSaid : Prop := fnSendTwoRow.holds Tryz.pinned (OpenSpec.ofChange fnSendTwoSpec)

/-- ITS FALSE NEIGHBOUR: 'it returns false'. Refute it at one input. -/
def fnSendTwoWrong : ChangeSpec := { name := "fnSendTwo", fn := fun _ => fun
  | [d1, d2] => { results := [.lit (.bool false)], args := [d1, d2] }
  | _ => none }
def FnSendTwoWrongFalsely : Prop := fnSendTwoRow.holds Tryz.pinned (OpenSpec.ofChange fnSendTwoWrong)

/-- 'laws.FnStoreFetch': WHATEVER THE INPUT: true; the input reads as it did. -/
def fnStoreFetchSpec : ChangeSpec := { name := "fnStoreFetch", fn := fun _ => fun
  | [d1, d2] => { results := [.lit (.bool true)], args := [d1, d2] }
  | _ => none }
def fnStoreFetchRow : OpenClaim := { program := "ytlhhijnmacogcaagreatdoor", sum := "e10e409e576f48722a36a338e822948beaa7ac49799bc87206ecf307728f353b", func := "loop.example/drawbar/laws.FnStoreFetch", spec := "fnStoreFetch", inPlace := ["internal/reflectlite.ValueOf", "(internal/reflectlite.Value).Type", "(internal/reflectlite.Value).IsNil", "internal/reflectlite.TypeOf", "(internal/reflectlite.Value).Elem", "(internal/reflectlite.Value).Set"], unfollowed := true, recurses := true, named := ["errors.errorType"], apart := false, laid := [("errors.errorType", laid_errors_errorType)] }
def FnStoreFetchSaid : Prop := fnStoreFetchRow.holds Tryz.pinned (OpenSpec.ofChange fnStoreFetchSpec)

/-- ITS FALSE NEIGHBOUR: 'it returns false'. Refute it at one input. -/
def fnStoreFetchWrong : ChangeSpec := { name := "fnStoreFetch", fn := fun _ => fun
  | [d1, d2] => { results := [.lit (.bool false)], args := [d1, d2] }
  | _ => none }
def FnStoreFetchWrongFalsely : Prop := fnStoreFetchRow.holds Tryz.pinned (OpenSpec.ofChange fnStoreFetchWrong)

/-- 'laws.FnTakeSent': WHATEVER THE INPUT: true; the input reads as it did. -/
def fnTakeSentSpec : ChangeSpec := { name := "fnTakeSent", fn := fun _ => fun
  | [d1, d2] => { results := [.lit (.bool true)], args := [d1, d2] }
  | _ => none }
def fnTakeSentRow : OpenClaim := { program := "ytlhhijnmacogcaagreatdoor", sum := "e10e409e576f48722a36a338e822948beaa7ac49799bc87206ecf307728f353b", func := "loop.example/drawbar/laws.FnTakeSent", spec := "fnTakeSent", inPlace := ["internal/reflectlite.ValueOf", "(internal/reflectlite.Value).Type", "(internal/reflectlite.Value).IsNil", "internal/reflectlite.TypeOf", "(internal/reflectlite.Value).Elem", "(internal/reflectlite.Value).Set"], unfollowed := true, recurses := true, named := ["errors.errorType"], apart := false, laid := [("errors.errorType", laid_errors_errorType)] }
def FnTakeSentSaid : Prop := fnTakeSentRow.holds Tryz.pinned (OpenSpec.ofChange fnTakeSentSpec)

/-- ITS FALSE NEIGHBOUR: 'it returns false'. Refute it at one input. -/
def fnTakeSentWrong : ChangeSpec := { name := "fnTakeSent", fn := fun _ => fun
  | [d1, d2] => { results := [.lit (.bool false)], args := [d1, d2] }
  | _ => none }
def FnTakeSentWrongFalsely : Prop := fnTakeSentRow.holds Tryz.pinned (OpenSpec.ofChange fnTakeSentWrong)

/-- 'laws.FnCopySame': WHATEVER THE INPUT: true; the input reads as it did. -/
def fnCopySameSpec : ChangeSpec := { name := "fnCopySame", fn := fun _ => fun
  | [d1, d2] => { results := [.lit (.bool true)], args := [d1, d2] }
  | _ => none }
def fnCopySameRow : OpenClaim := { program := "ytlhhijnmacogcaagreatdoor", sum := "e10e409e576f48722a36a338e822948beaa7ac49799bc87206ecf307728f353b", func := "loop.example/drawbar/laws.FnCopySame", spec := "fnCopySame", inPlace := ["internal/reflectlite.ValueOf", "(internal/reflectlite.Value).Type", "(internal/reflectlite.Value).IsNil", "internal/reflectlite.TypeOf", "(internal/reflectlite.Value).Elem", "(internal/reflectlite.Value).Set"], unfollowed := true, recurses := true, named := ["errors.errorType"], apart := false, laid := [("errors.errorType", laid_errors_errorType)] }
def FnCopySameSaid : Prop := fnCopySameRow.holds Tryz.pinned (OpenSpec.ofChange fnCopySameSpec)

/-- ITS FALSE NEIGHBOUR: 'it returns false'. Refute it at one input. -/
def fnCopySameWrong : ChangeSpec := { name := "fnCopySame", fn := fun _ => fun
  | [d1, d2] => { results := [.lit (.bool false)], args := [d1, d2] }
  | _ => none }
def FnCopySameWrongFalsely : Prop := fnCopySameRow.holds Tryz.pinned (OpenSpec.ofChange fnCopySameWrong)

/-- 'laws.FnDoGate': WHATEVER THE INPUT: true; the input reads as it did. -/
def fnDoGateSpec : ChangeSpec := { name := "fnDoGate", fn := fun _ => fun
  | [d] => { results := [.lit (.bool true)], args := [d] }
  | _ => none }
def fnDoGateRow : OpenClaim := { program := "ytlhhijnmacogcaagreatdoor", sum := "e10e409e576f48722a36a338e822948beaa7ac49799bc87206ecf307728f353b", func := "loop.example/drawbar/laws.FnDoGate", spec := "fnDoGate", inPlace := ["internal/reflectlite.ValueOf", "(internal/reflectlite.Value).Type", "(internal/reflectlite.Value).IsNil", "internal/reflectlite.TypeOf", "(internal/reflectlite.Value).Elem", "(internal/reflectlite.Value).Set"], unfollowed := true, recurses := true, named := ["errors.errorType"], apart := false, laid := [("errors.errorType", laid_errors_errorType)] }
def FnDoGateSaid : Prop := fnDoGateRow.holds Tryz.pinned (OpenSpec.ofChange fnDoGateSpec)

/-- ITS FALSE NEIGHBOUR: 'it returns false'. Refute it at one input. -/
def fnDoGateWrong : ChangeSpec := { name := "fnDoGate", fn := fun _ => fun
  | [d] => { results := [.lit (.bool false)], args := [d] }
  | _ => none }
def FnDoGateWrongFalsely : Prop := fnDoGateRow.holds Tryz.pinned (OpenSpec.ofChange fnDoGateWrong)

/-- 'laws.FnDoRefused': WHATEVER THE INPUT: true; the input reads as it did. -/
def fnDoRefusedSpec : ChangeSpec := { name := "fnDoRefused", fn := fun _ => fun
  | [d] => { results := [.lit (.bool true)], args := [d] }
  | _ => none }
def fnDoRefusedRow : OpenClaim := { program := "ytlhhijnmacogcaagreatdoor", sum := "e10e409e576f48722a36a338e822948beaa7ac49799bc87206ecf307728f353b", func := "loop.example/drawbar/laws.FnDoRefused", spec := "fnDoRefused", inPlace := ["internal/reflectlite.ValueOf", "(internal/reflectlite.Value).Type", "(internal/reflectlite.Value).IsNil", "internal/reflectlite.TypeOf", "(internal/reflectlite.Value).Elem", "(internal/reflectlite.Value).Set"], unfollowed := true, recurses := true, named := ["errors.errorType"], apart := false, laid := [("errors.errorType", laid_errors_errorType)] }
def FnDoRefusedSaid : Prop := fnDoRefusedRow.holds Tryz.pinned (OpenSpec.ofChange fnDoRefusedSpec)

/-- ITS FALSE NEIGHBOUR: 'it returns false'. Refute it at one input. -/
def fnDoRefusedWrong : ChangeSpec := { name := "fnDoRefused", fn := fun _ => fun
  | [d] => { results := [.lit (.bool false)], args := [d] }
  | _ => none }
def FnDoRefusedWrongFalsely : Prop := fnDoRefusedRow.holds Tryz.pinned (OpenSpec.ofChange fnDoRefusedWrong)

/-- 'laws.FnDoTwo': WHATEVER THE INPUT: true; the input reads as it did. -/
def fnDoTwoSpec : ChangeSpec := { name := "fnDoTwo", fn := fun _ => fun
  | [d1, d2] => { results := [.lit (.bool true)], args := [d1, d2] }
  | _ => none }
def fnDoTwoRow : OpenClaim := { program := "ytlhhijnmacogcaagreatdoor", sum := "e10e409e576f48722a36a338e822948beaa7ac49799bc87206ecf307728f353b", func := "loop.example/drawbar/laws.FnDoTwo", spec := "fnDoTwo", inPlace := ["internal/reflectlite.ValueOf", "(internal/reflectlite.Value).Type", "(internal/reflectlite.Value).IsNil", "internal/reflectlite.TypeOf", "(internal/reflectlite.Value).Elem", "(internal/reflectlite.Value).Set"], unfollowed := true, recurses := true, named := ["errors.errorType"], apart := false, laid := [("errors.errorType", laid_errors_errorType)] }
def FnDoTwoSaid : Prop := fnDoTwoRow.holds Tryz.pinned (OpenSpec.ofChange fnDoTwoSpec)

/-- ITS FALSE NEIGHBOUR: 'it returns false'. Refute it at one input. -/
def fnDoTwoWrong : ChangeSpec := { name := "fnDoTwo", fn := fun _ => fun
  | [d1, d2] => { results := [.lit (.bool false)], args := [d1, d2] }
  | _ => none }
def FnDoTwoWrongFalsely : Prop := fnDoTwoRow.holds Tryz.pinned (OpenSpec.ofChange fnDoTwoWrong)

/-- 'laws.FnGateTwice': WHATEVER THE INPUT: true; the input reads as it did. -/
def fnGateTwiceSpec : ChangeSpec := { name := "fnGateTwice", fn := fun _ => fun
  | [d1, d2] => { results := [.lit (.bool true)], args := [d1, d2] }
  | _ => none }
def fnGateTwiceRow : OpenClaim := { program := "ytlhhijnmacogcaagreatdoor", sum := "e10e409e576f48722a36a338e822948beaa7ac49799bc87206ecf307728f353b", func := "loop.example/drawbar/laws.FnGateTwice", spec := "fnGateTwice", inPlace := ["internal/reflectlite.ValueOf", "(internal/reflectlite.Value).Type", "(internal/reflectlite.Value).IsNil", "internal/reflectlite.TypeOf", "(internal/reflectlite.Value).Elem", "(internal/reflectlite.Value).Set"], unfollowed := true, recurses := true, named := ["errors.errorType"], apart := false, laid := [("errors.errorType", laid_errors_errorType)] }
def FnGateTwiceSaid : Prop := fnGateTwiceRow.holds Tryz.pinned (OpenSpec.ofChange fnGateTwiceSpec)

/-- ITS FALSE NEIGHBOUR: 'it returns false'. Refute it at one input. -/
def fnGateTwiceWrong : ChangeSpec := { name := "fnGateTwice", fn := fun _ => fun
  | [d1, d2] => { results := [.lit (.bool false)], args := [d1, d2] }
  | _ => none }
def FnGateTwiceWrongFalsely : Prop := fnGateTwiceRow.holds Tryz.pinned (OpenSpec.ofChange fnGateTwiceWrong)

/-- 'laws.FnWeakChain': WHATEVER THE INPUT: true; the input reads as it did. -/
def fnWeakChainSpec : ChangeSpec := { name := "fnWeakChain", fn := fun _ => fun
  | [d1, d2] => { results := [.lit (.bool true)], args := [d1, d2] }
  | _ => none }
def fnWeakChainRow : OpenClaim := { program := "ytlhhijnmacogcaagreatdoor", sum := "e10e409e576f48722a36a338e822948beaa7ac49799bc87206ecf307728f353b", func := "loop.example/drawbar/laws.FnWeakChain", spec := "fnWeakChain", inPlace := ["internal/reflectlite.ValueOf", "(internal/reflectlite.Value).Type", "(internal/reflectlite.Value).IsNil", "internal/reflectlite.TypeOf", "(internal/reflectlite.Value).Elem", "(internal/reflectlite.Value).Set"], unfollowed := true, recurses := true, named := ["errors.errorType"], apart := false, laid := [("errors.errorType", laid_errors_errorType)] }
def FnWeakChainSaid : Prop := fnWeakChainRow.holds Tryz.pinned (OpenSpec.ofChange fnWeakChainSpec)

/-- ITS FALSE NEIGHBOUR: 'it returns false'. Refute it at one input. -/
def fnWeakChainWrong : ChangeSpec := { name := "fnWeakChain", fn := fun _ => fun
  | [d1, d2] => { results := [.lit (.bool false)], args := [d1, d2] }
  | _ => none }
def FnWeakChainWrongFalsely : Prop := fnWeakChainRow.holds Tryz.pinned (OpenSpec.ofChange fnWeakChainWrong)

/-- 'laws.FnWriteTwo': WHATEVER THE INPUT: true; the input reads as it did. -/
def fnWriteTwoSpec : ChangeSpec := { name := "fnWriteTwo", fn := fun _ => fun
  | [d1, d2] => { results := [.lit (.bool true)], args := [d1, d2] }
  | _ => none }
def fnWriteTwoRow : OpenClaim := { program := "ytlhhijnmacogcaagreatdoor", sum := "e10e409e576f48722a36a338e822948beaa7ac49799bc87206ecf307728f353b", func := "loop.example/drawbar/laws.FnWriteTwo", spec := "fnWriteTwo", inPlace := ["internal/reflectlite.ValueOf", "(internal/reflectlite.Value).Type", "(internal/reflectlite.Value).IsNil", "internal/reflectlite.TypeOf", "(internal/reflectlite.Value).Elem", "(internal/reflectlite.Value).Set"], unfollowed := true, recurses := true, named := ["errors.errorType"], apart := false, laid := [("errors.errorType", laid_errors_errorType)] }
def FnWriteTwoSaid : Prop := fnWriteTwoRow.holds Tryz.pinned (OpenSpec.ofChange fnWriteTwoSpec)

/-- ITS FALSE NEIGHBOUR: 'it returns false'. Refute it at one input. -/
def fnWriteTwoWrong : ChangeSpec := { name := "fnWriteTwo", fn := fun _ => fun
  | [d1, d2] => { results := [.lit (.bool false)], args := [d1, d2] }
  | _ => none }
def FnWriteTwoWrongFalsely : Prop := fnWriteTwoRow.holds Tryz.pinned (OpenSpec.ofChange fnWriteTwoWrong)

/-- 'laws.FnDoRenew': WHATEVER THE INPUT: true; the input reads as it did. -/
def fnDoRenewSpec : ChangeSpec := { name := "fnDoRenew", fn := fun _ => fun
  | [d] => { results := [.lit (.bool true)], args := [d] }
  | _ => none }
def fnDoRenewRow : OpenClaim := { program := "ytlhhijnmacogcaagreatdoor", sum := "e10e409e576f48722a36a338e822948beaa7ac49799bc87206ecf307728f353b", func := "loop.example/drawbar/laws.FnDoRenew", spec := "fnDoRenew", inPlace := ["internal/reflectlite.ValueOf", "(internal/reflectlite.Value).Type", "(internal/reflectlite.Value).IsNil", "internal/reflectlite.TypeOf", "(internal/reflectlite.Value).Elem", "(internal/reflectlite.Value).Set"], unfollowed := true, recurses := true, named := ["errors.errorType"], apart := false, laid := [("errors.errorType", laid_errors_errorType)] }
def FnDoRenewSaid : Prop := fnDoRenewRow.holds Tryz.pinned (OpenSpec.ofChange fnDoRenewSpec)

/-- ITS FALSE NEIGHBOUR: 'it returns false'. Refute it at one input. -/
def fnDoRenewWrong : ChangeSpec := { name := "fnDoRenew", fn := fun _ => fun
  | [d] => { results := [.lit (.bool false)], args := [d] }
  | _ => none }
def FnDoRenewWrongFalsely : Prop := fnDoRenewRow.holds Tryz.pinned (OpenSpec.ofChange fnDoRenewWrong)

/-- 'laws.FnRenewTwice': WHATEVER THE INPUT: true; the input reads as it did. -/
def fnRenewTwiceSpec : ChangeSpec := { name := "fnRenewTwice", fn := fun _ => fun
  | [d] => { results := [.lit (.bool true)], args := [d] }
  | _ => none }
def fnRenewTwiceRow : OpenClaim := { program := "ytlhhijnmacogcaagreatdoor", sum := "e10e409e576f48722a36a338e822948beaa7ac49799bc87206ecf307728f353b", func := "loop.example/drawbar/laws.FnRenewTwice", spec := "fnRenewTwice", inPlace := ["internal/reflectlite.ValueOf", "(internal/reflectlite.Value).Type", "(internal/reflectlite.Value).IsNil", "internal/reflectlite.TypeOf", "(internal/reflectlite.Value).Elem", "(internal/reflectlite.Value).Set"], unfollowed := true, recurses := true, named := ["errors.errorType"], apart := false, laid := [("errors.errorType", laid_errors_errorType)] }
def FnRenewTwiceSaid : Prop := fnRenewTwiceRow.holds Tryz.pinned (OpenSpec.ofChange fnRenewTwiceSpec)

/-- ITS FALSE NEIGHBOUR: 'it returns false'. Refute it at one input. -/
def fnRenewTwiceWrong : ChangeSpec := { name := "fnRenewTwice", fn := fun _ => fun
  | [d] => { results := [.lit (.bool false)], args := [d] }
  | _ => none }
def FnRenewTwiceWrongFalsely : Prop := fnRenewTwiceRow.holds Tryz.pinned (OpenSpec.ofChange fnRenewTwiceWrong)

/- THE SECOND FORM. 'bulk': how many values and letters a reading holds, each counted each time it is reached (what is shared counts as often as it is met; a slice's spare places count too). A statement '..UptoSaid' is the law's where the arguments, and the package variables that the reading takes, are together of bulk at most 1048576: NARROWER than '..Said'. Prove '..Said' where nothing that the law and all that it calls make is longer than what came in: it says more and counts as full. Else prove '..UptoSaid'. A law counts once. -/
mutual
def uptoBulk {H : Type} : DataW H → Nat
  | .lit (.string bytes) => bytes.length + 1
  | .lit _ => 1
  | .nil => 1
  | .ptr d => uptoBulk d + 1
  | .slice elems spare => uptoBulkAll elems + uptoBulkAll spare + 1
  | .agg parts => uptoBulkAll parts + 1
  | .iface _ d => uptoBulk d + 1
  | .map entries => uptoBulkEntries entries + 1
  | .held _ => 1
def uptoBulkAll {H : Type} : List (DataW H) → Nat
  | [] => 0
  | d :: r => uptoBulk d + uptoBulkAll r
def uptoBulkEntries {H : Type} : List (Lit × DataW H) → Nat
  | [] => 0
  | x :: r => uptoBulkEntry x + uptoBulkEntries r
def uptoBulkEntry {H : Type} : Lit × DataW H → Nat
  | (.string bytes, d) => bytes.length + uptoBulk d + 1
  | (_, d) => uptoBulk d + 1
 end
def uptoSmall : (H : Type) → List (DataW H) → Bool := fun _ ds => decide (uptoBulkAll ds ≤ 1048576)
def OpenSpec.upto (s : _root_.Go.ChangeSpec) : _root_.Go.OpenSpec := { _root_.Go.OpenSpec.ofChange s with cond := some uptoSmall }

/-- 'laws.FnSendTwo', WHERE WHAT IT READS IS OF BULK AT MOST 1048576: true; the input reads as it did. -/
def fnSendTwoUptoRow : OpenClaim := { program := "ytlhhijnmacogcaagreatdoor", sum := "e10e409e576f48722a36a338e822948beaa7ac49799bc87206ecf307728f353b", func := "loop.example/drawbar/laws.FnSendTwo", spec := "fnSendTwo", inPlace := ["internal/reflectlite.ValueOf", "(internal/reflectlite.Value).Type", "(internal/reflectlite.Value).IsNil", "internal/reflectlite.TypeOf", "(internal/reflectlite.Value).Elem", "(internal/reflectlite.Value).Set"], unfollowed := true, recurses := true, named := ["errors.errorType"], apart := false, laid := [("errors.errorType", laid_errors_errorType)], narrowed := true }
def FnSendTwoUptoSaid : Prop := fnSendTwoUptoRow.holds Tryz.pinned (OpenSpec.upto fnSendTwoSpec)

/-- 'laws.FnStoreFetch', WHERE WHAT IT READS IS OF BULK AT MOST 1048576: true; the input reads as it did. -/
def fnStoreFetchUptoRow : OpenClaim := { program := "ytlhhijnmacogcaagreatdoor", sum := "e10e409e576f48722a36a338e822948beaa7ac49799bc87206ecf307728f353b", func := "loop.example/drawbar/laws.FnStoreFetch", spec := "fnStoreFetch", inPlace := ["internal/reflectlite.ValueOf", "(internal/reflectlite.Value).Type", "(internal/reflectlite.Value).IsNil", "internal/reflectlite.TypeOf", "(internal/reflectlite.Value).Elem", "(internal/reflectlite.Value).Set"], unfollowed := true, recurses := true, named := ["errors.errorType"], apart := false, laid := [("errors.errorType", laid_errors_errorType)], narrowed := true }
def FnStoreFetchUptoSaid : Prop := fnStoreFetchUptoRow.holds Tryz.pinned (OpenSpec.upto fnStoreFetchSpec)

/-- 'laws.FnTakeSent', WHERE WHAT IT READS IS OF BULK AT MOST 1048576: true; the input reads as it did. -/
def fnTakeSentUptoRow : OpenClaim := { program := "ytlhhijnmacogcaagreatdoor", sum := "e10e409e576f48722a36a338e822948beaa7ac49799bc87206ecf307728f353b", func := "loop.example/drawbar/laws.FnTakeSent", spec := "fnTakeSent", inPlace := ["internal/reflectlite.ValueOf", "(internal/reflectlite.Value).Type", "(internal/reflectlite.Value).IsNil", "internal/reflectlite.TypeOf", "(internal/reflectlite.Value).Elem", "(internal/reflectlite.Value).Set"], unfollowed := true, recurses := true, named := ["errors.errorType"], apart := false, laid := [("errors.errorType", laid_errors_errorType)], narrowed := true }
def FnTakeSentUptoSaid : Prop := fnTakeSentUptoRow.holds Tryz.pinned (OpenSpec.upto fnTakeSentSpec)

/-- 'laws.FnCopySame', WHERE WHAT IT READS IS OF BULK AT MOST 1048576: true; the input reads as it did. -/
def fnCopySameUptoRow : OpenClaim := { program := "ytlhhijnmacogcaagreatdoor", sum := "e10e409e576f48722a36a338e822948beaa7ac49799bc87206ecf307728f353b", func := "loop.example/drawbar/laws.FnCopySame", spec := "fnCopySame", inPlace := ["internal/reflectlite.ValueOf", "(internal/reflectlite.Value).Type", "(internal/reflectlite.Value).IsNil", "internal/reflectlite.TypeOf", "(internal/reflectlite.Value).Elem", "(internal/reflectlite.Value).Set"], unfollowed := true, recurses := true, named := ["errors.errorType"], apart := false, laid := [("errors.errorType", laid_errors_errorType)], narrowed := true }
def FnCopySameUptoSaid : Prop := fnCopySameUptoRow.holds Tryz.pinned (OpenSpec.upto fnCopySameSpec)

/-- 'laws.FnDoGate', WHERE WHAT IT READS IS OF BULK AT MOST 1048576: true; the input reads as it did. -/
def fnDoGateUptoRow : OpenClaim := { program := "ytlhhijnmacogcaagreatdoor", sum := "e10e409e576f48722a36a338e822948beaa7ac49799bc87206ecf307728f353b", func := "loop.example/drawbar/laws.FnDoGate", spec := "fnDoGate", inPlace := ["internal/reflectlite.ValueOf", "(internal/reflectlite.Value).Type", "(internal/reflectlite.Value).IsNil", "internal/reflectlite.TypeOf", "(internal/reflectlite.Value).Elem", "(internal/reflectlite.Value).Set"], unfollowed := true, recurses := true, named := ["errors.errorType"], apart := false, laid := [("errors.errorType", laid_errors_errorType)], narrowed := true }
def FnDoGateUptoSaid : Prop := fnDoGateUptoRow.holds Tryz.pinned (OpenSpec.upto fnDoGateSpec)

/-- 'laws.FnDoRefused', WHERE WHAT IT READS IS OF BULK AT MOST 1048576: true; the input reads as it did. -/
def fnDoRefusedUptoRow : OpenClaim := { program := "ytlhhijnmacogcaagreatdoor", sum := "e10e409e576f48722a36a338e822948beaa7ac49799bc87206ecf307728f353b", func := "loop.example/drawbar/laws.FnDoRefused", spec := "fnDoRefused", inPlace := ["internal/reflectlite.ValueOf", "(internal/reflectlite.Value).Type", "(internal/reflectlite.Value).IsNil", "internal/reflectlite.TypeOf", "(internal/reflectlite.Value).Elem", "(internal/reflectlite.Value).Set"], unfollowed := true, recurses := true, named := ["errors.errorType"], apart := false, laid := [("errors.errorType", laid_errors_errorType)], narrowed := true }
def FnDoRefusedUptoSaid : Prop := fnDoRefusedUptoRow.holds Tryz.pinned (OpenSpec.upto fnDoRefusedSpec)

/-- 'laws.FnDoTwo', WHERE WHAT IT READS IS OF BULK AT MOST 1048576: true; the input reads as it did. -/
def fnDoTwoUptoRow : OpenClaim := { program := "ytlhhijnmacogcaagreatdoor", sum := "e10e409e576f48722a36a338e822948beaa7ac49799bc87206ecf307728f353b", func := "loop.example/drawbar/laws.FnDoTwo", spec := "fnDoTwo", inPlace := ["internal/reflectlite.ValueOf", "(internal/reflectlite.Value).Type", "(internal/reflectlite.Value).IsNil", "internal/reflectlite.TypeOf", "(internal/reflectlite.Value).Elem", "(internal/reflectlite.Value).Set"], unfollowed := true, recurses := true, named := ["errors.errorType"], apart := false, laid := [("errors.errorType", laid_errors_errorType)], narrowed := true }
def FnDoTwoUptoSaid : Prop := fnDoTwoUptoRow.holds Tryz.pinned (OpenSpec.upto fnDoTwoSpec)

/-- 'laws.FnGateTwice', WHERE WHAT IT READS IS OF BULK AT MOST 1048576: true; the input reads as it did. -/
def fnGateTwiceUptoRow : OpenClaim := { program := "ytlhhijnmacogcaagreatdoor", sum := "e10e409e576f48722a36a338e822948beaa7ac49799bc87206ecf307728f353b", func := "loop.example/drawbar/laws.FnGateTwice", spec := "fnGateTwice", inPlace := ["internal/reflectlite.ValueOf", "(internal/reflectlite.Value).Type", "(internal/reflectlite.Value).IsNil", "internal/reflectlite.TypeOf", "(internal/reflectlite.Value).Elem", "(internal/reflectlite.Value).Set"], unfollowed := true, recurses := true, named := ["errors.errorType"], apart := false, laid := [("errors.errorType", laid_errors_errorType)], narrowed := true }
def FnGateTwiceUptoSaid : Prop := fnGateTwiceUptoRow.holds Tryz.pinned (OpenSpec.upto fnGateTwiceSpec)

/-- 'laws.FnWeakChain', WHERE WHAT IT READS IS OF BULK AT MOST 1048576: true; the input reads as it did. -/
def fnWeakChainUptoRow : OpenClaim := { program := "ytlhhijnmacogcaagreatdoor", sum := "e10e409e576f48722a36a338e822948beaa7ac49799bc87206ecf307728f353b", func := "loop.example/drawbar/laws.FnWeakChain", spec := "fnWeakChain", inPlace := ["internal/reflectlite.ValueOf", "(internal/reflectlite.Value).Type", "(internal/reflectlite.Value).IsNil", "internal/reflectlite.TypeOf", "(internal/reflectlite.Value).Elem", "(internal/reflectlite.Value).Set"], unfollowed := true, recurses := true, named := ["errors.errorType"], apart := false, laid := [("errors.errorType", laid_errors_errorType)], narrowed := true }
def FnWeakChainUptoSaid : Prop := fnWeakChainUptoRow.holds Tryz.pinned (OpenSpec.upto fnWeakChainSpec)

/-- 'laws.FnWriteTwo', WHERE WHAT IT READS IS OF BULK AT MOST 1048576: true; the input reads as it did. -/
def fnWriteTwoUptoRow : OpenClaim := { program := "ytlhhijnmacogcaagreatdoor", sum := "e10e409e576f48722a36a338e822948beaa7ac49799bc87206ecf307728f353b", func := "loop.example/drawbar/laws.FnWriteTwo", spec := "fnWriteTwo", inPlace := ["internal/reflectlite.ValueOf", "(internal/reflectlite.Value).Type", "(internal/reflectlite.Value).IsNil", "internal/reflectlite.TypeOf", "(internal/reflectlite.Value).Elem", "(internal/reflectlite.Value).Set"], unfollowed := true, recurses := true, named := ["errors.errorType"], apart := false, laid := [("errors.errorType", laid_errors_errorType)], narrowed := true }
def FnWriteTwoUptoSaid : Prop := fnWriteTwoUptoRow.holds Tryz.pinned (OpenSpec.upto fnWriteTwoSpec)

/-- 'laws.FnDoRenew', WHERE WHAT IT READS IS OF BULK AT MOST 1048576: true; the input reads as it did. -/
def fnDoRenewUptoRow : OpenClaim := { program := "ytlhhijnmacogcaagreatdoor", sum := "e10e409e576f48722a36a338e822948beaa7ac49799bc87206ecf307728f353b", func := "loop.example/drawbar/laws.FnDoRenew", spec := "fnDoRenew", inPlace := ["internal/reflectlite.ValueOf", "(internal/reflectlite.Value).Type", "(internal/reflectlite.Value).IsNil", "internal/reflectlite.TypeOf", "(internal/reflectlite.Value).Elem", "(internal/reflectlite.Value).Set"], unfollowed := true, recurses := true, named := ["errors.errorType"], apart := false, laid := [("errors.errorType", laid_errors_errorType)], narrowed := true }
def FnDoRenewUptoSaid : Prop := fnDoRenewUptoRow.holds Tryz.pinned (OpenSpec.upto fnDoRenewSpec)

/-- 'laws.FnRenewTwice', WHERE WHAT IT READS IS OF BULK AT MOST 1048576: true; the input reads as it did. -/
def fnRenewTwiceUptoRow : OpenClaim := { program := "ytlhhijnmacogcaagreatdoor", sum := "e10e409e576f48722a36a338e822948beaa7ac49799bc87206ecf307728f353b", func := "loop.example/drawbar/laws.FnRenewTwice", spec := "fnRenewTwice", inPlace := ["internal/reflectlite.ValueOf", "(internal/reflectlite.Value).Type", "(internal/reflectlite.Value).IsNil", "internal/reflectlite.TypeOf", "(internal/reflectlite.Value).Elem", "(internal/reflectlite.Value).Set"], unfollowed := true, recurses := true, named := ["errors.errorType"], apart := false, laid := [("errors.errorType", laid_errors_errorType)], narrowed := true }
def FnRenewTwiceUptoSaid : Prop := fnRenewTwiceUptoRow.holds Tryz.pinned (OpenSpec.upto fnRenewTwiceSpec)

end Rows
end Go.Proofs.YtlhhijnmacogcaaGreatDoor
