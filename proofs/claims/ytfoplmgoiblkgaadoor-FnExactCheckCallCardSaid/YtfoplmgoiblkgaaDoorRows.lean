/-
  NARROWER THAN 'FOR EVERY INPUT', by the rows' own cells (each row's printed sentence says how): FnExactCheckCall: laid · FnCheckRight: laid · FnCheckGone: laid · FnReadUp: laid · FnCheckLess: laid · FnCheckBlind: laid.
  DERIVED. THE GIVEN ROWS OF THIS SEAT. 6 by the template 'for every input the law returns true; each argument reads behind the call as it read before'; 0 by the template 'total and deterministic' (their statements: YtfoplmgoiblkgaaDoorTotals.lean).
  GIVEN WITH THE SEED: the statements are not yours to turn. If you find one false, say at which input.
  Laid BY PROGRAM, IN A SANDBOX (cutbox-rows.mjs): the forced cells as the released guide's own fill.sh prints them over the translation 10653dde44b62228… (all of the seat's roots in one cut). By AI agents, Wed Nov 11 2026. No macro, syntax, notation, axiom, sorry.
-/
import Derived.Test.YtfoplmgoiblkgaaDoorChecked
import GoSem.Claim
import GoSem.ClaimJoined
import GoSem.ClaimMapViews
import Derived.JoinedTies
import Derived.KernelRfl
namespace Go.Proofs.YtfoplmgoiblkgaaDoor
/- THE CELL 'sum', in the pinned program and in every row, IS THE sha256 OF THE DUMP (.gsa) THAT YtfoplmgoiblkgaaDoorProg.lean LOADS. Nothing in Lean hashes anything: it is a label: what it is worth is what the hold of that sum in a sandbox is worth. -/
noncomputable def Tryd.pinned : Pinned := { name := "ytfoplmgoiblkgaadoor", sum := "10653dde44b62228f4717181be7d8210e627198082241220bbb139a7155946eb", checked := Tryd.checked }
namespace Rows
def none {H : Type} : Left H := { results := [], args := [] }

/- WHAT THE LISTED PACKAGE-LEVEL VARIABLES READ AS WHEN THE CALL BEGINS. Each datum BY PROGRAM (the guide's laid-datum.mjs) off the statement by which the dump's own 'gosem.cut.vars' lays the variable. In a bare row this is a premise. The card (YtfoplmgoiblkgaaDoorCards.lean) ties it to the program's text. -/
def laid_errors_errorType {H : Type} : DataW H := .iface "internal/reflectlite.rtype" (.agg [.ptr (.lit (.string [101, 114, 114, 111, 114]))])

/-- 'laws.FnExactCheckCall': WHATEVER THE INPUT: true; the input reads as it did. -/
def fnExactCheckCallSpec : ChangeSpec := { name := "fnExactCheckCall", fn := fun _ => fun
  | [d1, d2] => { results := [.lit (.bool true)], args := [d1, d2] }
  | _ => none }
def fnExactCheckCallRow : OpenClaim := { program := "ytfoplmgoiblkgaadoor", sum := "10653dde44b62228f4717181be7d8210e627198082241220bbb139a7155946eb", func := "loop.example/drawbar/laws.FnExactCheckCall", spec := "fnExactCheckCall", inPlace := ["internal/reflectlite.ValueOf", "(internal/reflectlite.Value).Type", "(internal/reflectlite.Value).IsNil", "internal/reflectlite.TypeOf", "(internal/reflectlite.Value).Elem", "(internal/reflectlite.Value).Set"], unfollowed := true, recurses := true, named := ["errors.errorType"], apart := false, laid := [("errors.errorType", laid_errors_errorType)] }
def FnExactCheckCallSaid : Prop := fnExactCheckCallRow.holds Tryd.pinned (OpenSpec.ofChange fnExactCheckCallSpec)

/-- ITS FALSE NEIGHBOUR: 'it returns false'. Refute it at one input. -/
def fnExactCheckCallWrong : ChangeSpec := { name := "fnExactCheckCall", fn := fun _ => fun
  | [d1, d2] => { results := [.lit (.bool false)], args := [d1, d2] }
  | _ => none }
def FnExactCheckCallWrongFalsely : Prop := fnExactCheckCallRow.holds Tryd.pinned (OpenSpec.ofChange fnExactCheckCallWrong)

/-- 'laws.FnCheckRight': WHATEVER THE INPUT: true; the input reads as it did. -/
def fnCheckRightSpec : ChangeSpec := { name := "fnCheckRight", fn := fun _ => fun
  | [d] => { results := [.lit (.bool true)], args := [d] }
  | _ => none }
def fnCheckRightRow : OpenClaim := { program := "ytfoplmgoiblkgaadoor", sum := "10653dde44b62228f4717181be7d8210e627198082241220bbb139a7155946eb", func := "loop.example/drawbar/laws.FnCheckRight", spec := "fnCheckRight", inPlace := ["internal/reflectlite.ValueOf", "(internal/reflectlite.Value).Type", "(internal/reflectlite.Value).IsNil", "internal/reflectlite.TypeOf", "(internal/reflectlite.Value).Elem", "(internal/reflectlite.Value).Set"], unfollowed := true, recurses := true, named := ["errors.errorType"], apart := false, laid := [("errors.errorType", laid_errors_errorType)] }
def FnCheckRightSaid : Prop := fnCheckRightRow.holds Tryd.pinned (OpenSpec.ofChange fnCheckRightSpec)

/-- ITS FALSE NEIGHBOUR: 'it returns false'. Refute it at one input. -/
def fnCheckRightWrong : ChangeSpec := { name := "fnCheckRight", fn := fun _ => fun
  | [d] => { results := [.lit (.bool false)], args := [d] }
  | _ => none }
def FnCheckRightWrongFalsely : Prop := fnCheckRightRow.holds Tryd.pinned (OpenSpec.ofChange fnCheckRightWrong)

/-- 'laws.FnCheckGone': WHATEVER THE INPUT: true; the input reads as it did. -/
def fnCheckGoneSpec : ChangeSpec := { name := "fnCheckGone", fn := fun _ => fun
  | [d] => { results := [.lit (.bool true)], args := [d] }
  | _ => none }
def fnCheckGoneRow : OpenClaim := { program := "ytfoplmgoiblkgaadoor", sum := "10653dde44b62228f4717181be7d8210e627198082241220bbb139a7155946eb", func := "loop.example/drawbar/laws.FnCheckGone", spec := "fnCheckGone", inPlace := ["internal/reflectlite.ValueOf", "(internal/reflectlite.Value).Type", "(internal/reflectlite.Value).IsNil", "internal/reflectlite.TypeOf", "(internal/reflectlite.Value).Elem", "(internal/reflectlite.Value).Set"], unfollowed := true, recurses := true, named := ["errors.errorType"], apart := false, laid := [("errors.errorType", laid_errors_errorType)] }
def FnCheckGoneSaid : Prop := fnCheckGoneRow.holds Tryd.pinned (OpenSpec.ofChange fnCheckGoneSpec)

/-- ITS FALSE NEIGHBOUR: 'it returns false'. Refute it at one input. -/
def fnCheckGoneWrong : ChangeSpec := { name := "fnCheckGone", fn := fun _ => fun
  | [d] => { results := [.lit (.bool false)], args := [d] }
  | _ => none }
def FnCheckGoneWrongFalsely : Prop := fnCheckGoneRow.holds Tryd.pinned (OpenSpec.ofChange fnCheckGoneWrong)

/-- 'laws.FnReadUp': WHATEVER THE INPUT: true; the input reads as it did. -/
def fnReadUpSpec : ChangeSpec := { name := "fnReadUp", fn := fun _ => fun
  | [d] => { results := [.lit (.bool true)], args := [d] }
  | _ => none }
def fnReadUpRow : OpenClaim := { program := "ytfoplmgoiblkgaadoor", sum := "10653dde44b62228f4717181be7d8210e627198082241220bbb139a7155946eb", func := "loop.example/drawbar/laws.FnReadUp", spec := "fnReadUp", inPlace := ["internal/reflectlite.ValueOf", "(internal/reflectlite.Value).Type", "(internal/reflectlite.Value).IsNil", "internal/reflectlite.TypeOf", "(internal/reflectlite.Value).Elem", "(internal/reflectlite.Value).Set"], unfollowed := true, recurses := true, named := ["errors.errorType"], apart := false, laid := [("errors.errorType", laid_errors_errorType)] }
def FnReadUpSaid : Prop := fnReadUpRow.holds Tryd.pinned (OpenSpec.ofChange fnReadUpSpec)

/-- ITS FALSE NEIGHBOUR: 'it returns false'. Refute it at one input. -/
def fnReadUpWrong : ChangeSpec := { name := "fnReadUp", fn := fun _ => fun
  | [d] => { results := [.lit (.bool false)], args := [d] }
  | _ => none }
def FnReadUpWrongFalsely : Prop := fnReadUpRow.holds Tryd.pinned (OpenSpec.ofChange fnReadUpWrong)

/-- 'laws.FnCheckLess': WHATEVER THE INPUT: true; the input reads as it did. -/
def fnCheckLessSpec : ChangeSpec := { name := "fnCheckLess", fn := fun _ => fun
  | [d1, d2] => { results := [.lit (.bool true)], args := [d1, d2] }
  | _ => none }
def fnCheckLessRow : OpenClaim := { program := "ytfoplmgoiblkgaadoor", sum := "10653dde44b62228f4717181be7d8210e627198082241220bbb139a7155946eb", func := "loop.example/drawbar/laws.FnCheckLess", spec := "fnCheckLess", inPlace := ["internal/reflectlite.ValueOf", "(internal/reflectlite.Value).Type", "(internal/reflectlite.Value).IsNil", "internal/reflectlite.TypeOf", "(internal/reflectlite.Value).Elem", "(internal/reflectlite.Value).Set"], unfollowed := true, recurses := true, named := ["errors.errorType"], apart := false, laid := [("errors.errorType", laid_errors_errorType)] }
def FnCheckLessSaid : Prop := fnCheckLessRow.holds Tryd.pinned (OpenSpec.ofChange fnCheckLessSpec)

/-- ITS FALSE NEIGHBOUR: 'it returns false'. Refute it at one input. -/
def fnCheckLessWrong : ChangeSpec := { name := "fnCheckLess", fn := fun _ => fun
  | [d1, d2] => { results := [.lit (.bool false)], args := [d1, d2] }
  | _ => none }
def FnCheckLessWrongFalsely : Prop := fnCheckLessRow.holds Tryd.pinned (OpenSpec.ofChange fnCheckLessWrong)

/-- 'laws.FnCheckBlind': WHATEVER THE INPUT: true; the input reads as it did. -/
def fnCheckBlindSpec : ChangeSpec := { name := "fnCheckBlind", fn := fun _ => fun
  | [d1, d2] => { results := [.lit (.bool true)], args := [d1, d2] }
  | _ => none }
def fnCheckBlindRow : OpenClaim := { program := "ytfoplmgoiblkgaadoor", sum := "10653dde44b62228f4717181be7d8210e627198082241220bbb139a7155946eb", func := "loop.example/drawbar/laws.FnCheckBlind", spec := "fnCheckBlind", inPlace := ["internal/reflectlite.ValueOf", "(internal/reflectlite.Value).Type", "(internal/reflectlite.Value).IsNil", "internal/reflectlite.TypeOf", "(internal/reflectlite.Value).Elem", "(internal/reflectlite.Value).Set"], unfollowed := true, recurses := true, named := ["errors.errorType"], apart := false, laid := [("errors.errorType", laid_errors_errorType)] }
def FnCheckBlindSaid : Prop := fnCheckBlindRow.holds Tryd.pinned (OpenSpec.ofChange fnCheckBlindSpec)

/-- ITS FALSE NEIGHBOUR: 'it returns false'. Refute it at one input. -/
def fnCheckBlindWrong : ChangeSpec := { name := "fnCheckBlind", fn := fun _ => fun
  | [d1, d2] => { results := [.lit (.bool false)], args := [d1, d2] }
  | _ => none }
def FnCheckBlindWrongFalsely : Prop := fnCheckBlindRow.holds Tryd.pinned (OpenSpec.ofChange fnCheckBlindWrong)

/- THE SECOND FORM. 'bulk': how many values and letters a reading holds, each counted each time it is reached (what is shared counts as often as it is met; a slice's spare places count too). A statement '..UptoSaid' is the law's where the arguments, and the package variables that the reading takes, are together of bulk at most 1048576: NARROWER than '..Said'. Prove '..Said' where nothing that the law and all that it calls make is longer than what came in: it says more and counts as full. Else prove '..UptoSaid'. A law counts once. -/
mutual
def uptoBulk {H : Type} : DataW H → Nat
  | .lit (.string bytes) => bytes.length + 1
  | .lit _ => 1
  | .nil => 1
  | .ptr d => uptoBulk d + 1
  | .slice elems spare => uptoBulkAll elems + uptoBulkAll spare + 1
  | .agg parts => uptoBulkAll parts + 1
  | .iface _ d => uptoBulk d + 1
  | .map entries => uptoBulkEntries entries + 1
  | .held _ => 1
def uptoBulkAll {H : Type} : List (DataW H) → Nat
  | [] => 0
  | d :: r => uptoBulk d + uptoBulkAll r
def uptoBulkEntries {H : Type} : List (Lit × DataW H) → Nat
  | [] => 0
  | x :: r => uptoBulkEntry x + uptoBulkEntries r
def uptoBulkEntry {H : Type} : Lit × DataW H → Nat
  | (.string bytes, d) => bytes.length + uptoBulk d + 1
  | (_, d) => uptoBulk d + 1
 end
def uptoSmall : (H : Type) → List (DataW H) → Bool := fun _ ds => decide (uptoBulkAll ds ≤ 1048576)
def OpenSpec.upto (s : _root_.Go.ChangeSpec) : _root_.Go.OpenSpec := { _root_.Go.OpenSpec.ofChange s with cond := some uptoSmall }

/-- 'laws.FnExactCheckCall', WHERE WHAT IT READS IS OF BULK AT MOST 1048576: true; the input reads as it did. -/
def fnExactCheckCallUptoRow : OpenClaim := { program := "ytfoplmgoiblkgaadoor", sum := "10653dde44b62228f4717181be7d8210e627198082241220bbb139a7155946eb", func := "loop.example/drawbar/laws.FnExactCheckCall", spec := "fnExactCheckCall", inPlace := ["internal/reflectlite.ValueOf", "(internal/reflectlite.Value).Type", "(internal/reflectlite.Value).IsNil", "internal/reflectlite.TypeOf", "(internal/reflectlite.Value).Elem", "(internal/reflectlite.Value).Set"], unfollowed := true, recurses := true, named := ["errors.errorType"], apart := false, laid := [("errors.errorType", laid_errors_errorType)], narrowed := true }
def FnExactCheckCallUptoSaid : Prop := fnExactCheckCallUptoRow.holds Tryd.pinned (OpenSpec.upto fnExactCheckCallSpec)

/-- 'laws.FnCheckRight', WHERE WHAT IT READS IS OF BULK AT MOST 1048576: true; the input reads as it did. -/
def fnCheckRightUptoRow : OpenClaim := { program := "ytfoplmgoiblkgaadoor", sum := "10653dde44b62228f4717181be7d8210e627198082241220bbb139a7155946eb", func := "loop.example/drawbar/laws.FnCheckRight", spec := "fnCheckRight", inPlace := ["internal/reflectlite.ValueOf", "(internal/reflectlite.Value).Type", "(internal/reflectlite.Value).IsNil", "internal/reflectlite.TypeOf", "(internal/reflectlite.Value).Elem", "(internal/reflectlite.Value).Set"], unfollowed := true, recurses := true, named := ["errors.errorType"], apart := false, laid := [("errors.errorType", laid_errors_errorType)], narrowed := true }
def FnCheckRightUptoSaid : Prop := fnCheckRightUptoRow.holds Tryd.pinned (OpenSpec.upto fnCheckRightSpec)

/-- 'laws.FnCheckGone', WHERE WHAT IT READS IS OF BULK AT MOST 1048576: true; the input reads as it did. -/
def fnCheckGoneUptoRow : OpenClaim := { program := "ytfoplmgoiblkgaadoor", sum := "10653dde44b62228f4717181be7d8210e627198082241220bbb139a7155946eb", func := "loop.example/drawbar/laws.FnCheckGone", spec := "fnCheckGone", inPlace := ["internal/reflectlite.ValueOf", "(internal/reflectlite.Value).Type", "(internal/reflectlite.Value).IsNil", "internal/reflectlite.TypeOf", "(internal/reflectlite.Value).Elem", "(internal/reflectlite.Value).Set"], unfollowed := true, recurses := true, named := ["errors.errorType"], apart := false, laid := [("errors.errorType", laid_errors_errorType)], narrowed := true }
def FnCheckGoneUptoSaid : Prop := fnCheckGoneUptoRow.holds Tryd.pinned (OpenSpec.upto fnCheckGoneSpec)

/-- 'laws.FnReadUp', WHERE WHAT IT READS IS OF BULK AT MOST 1048576: true; the input reads as it did. -/
def fnReadUpUptoRow : OpenClaim := { program := "ytfoplmgoiblkgaadoor", sum := "10653dde44b62228f4717181be7d8210e627198082241220bbb139a7155946eb", func := "loop.example/drawbar/laws.FnReadUp", spec := "fnReadUp", inPlace := ["internal/reflectlite.ValueOf", "(internal/reflectlite.Value).Type", "(internal/reflectlite.Value).IsNil", "internal/reflectlite.TypeOf", "(internal/reflectlite.Value).Elem", "(internal/reflectlite.Value).Set"], unfollowed := true, recurses := true, named := ["errors.errorType"], apart := false, laid := [("errors.errorType", laid_errors_errorType)], narrowed := true }
def FnReadUpUptoSaid : Prop := fnReadUpUptoRow.holds Tryd.pinned (OpenSpec.upto fnReadUpSpec)

/-- 'laws.FnCheckLess', WHERE WHAT IT READS IS OF BULK AT MOST 1048576: true; the input reads as it did. -/
def fnCheckLessUptoRow : OpenClaim := { program := "ytfoplmgoiblkgaadoor", sum := "10653dde44b62228f4717181be7d8210e627198082241220bbb139a7155946eb", func := "loop.example/drawbar/laws.FnCheckLess", spec := "fnCheckLess", inPlace := ["internal/reflectlite.ValueOf", "(internal/reflectlite.Value).Type", "(internal/reflectlite.Value).IsNil", "internal/reflectlite.TypeOf", "(internal/reflectlite.Value).Elem", "(internal/reflectlite.Value).Set"], unfollowed := true, recurses := true, named := ["errors.errorType"], apart := false, laid := [("errors.errorType", laid_errors_errorType)], narrowed := true }
def FnCheckLessUptoSaid : Prop := fnCheckLessUptoRow.holds Tryd.pinned (OpenSpec.upto fnCheckLessSpec)

/-- 'laws.FnCheckBlind', WHERE WHAT IT READS IS OF BULK AT MOST 1048576: true; the input reads as it did. -/
def fnCheckBlindUptoRow : OpenClaim := { program := "ytfoplmgoiblkgaadoor", sum := "10653dde44b62228f4717181be7d8210e627198082241220bbb139a7155946eb", func := "loop.example/drawbar/laws.FnCheckBlind", spec := "fnCheckBlind", inPlace := ["internal/reflectlite.ValueOf", "(internal/reflectlite.Value).Type", "(internal/reflectlite.Value).IsNil", "internal/reflectlite.TypeOf", "(internal/reflectlite.Value).Elem", "(internal/reflectlite.Value).Set"], unfollowed := true, recurses := true, named := ["errors.errorType"], apart := false, laid := [("errors.errorType", laid_errors_errorType)], narrowed := true }
def FnCheckBlindUptoSaid : Prop := fnCheckBlindUptoRow.holds Tryd.pinned (OpenSpec.upto fnCheckBlindSpec)

end Rows
end Go.Proofs.YtfoplmgoiblkgaaDoor
