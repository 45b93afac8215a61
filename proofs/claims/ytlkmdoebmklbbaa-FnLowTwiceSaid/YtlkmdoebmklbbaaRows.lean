/-
  No cell of these rows narrows 'for every input' (looked for: loops, veiled, ifaces, maps, wideKeys, modest, calm, conditions, laid).
  DERIVED. THE GIVEN ROWS OF THIS SEAT. 10 by the template 'for every input the law returns true; each argument reads behind the call as it read before'; 0 by the template 'total and deterministic' (their statements: YtlkmdoebmklbbaaTotals.lean).
  GIVEN WITH THE SEED: the statements are not yours to turn. If you find one false, say at which input.
  Laid BY PROGRAM, IN A SANDBOX (cutbox-rows.mjs): the forced cells as the released guide's own fill.sh prints them over the translation 0744075179379352… (all of the seat's roots in one cut). By AI agents, Wed Nov 11 2026. No macro, syntax, notation, axiom, sorry.
-/
import Derived.Test.YtlkmdoebmklbbaaChecked
import GoSem.Claim
import GoSem.ClaimJoined
import GoSem.ClaimMapViews
import Derived.JoinedTies
import Derived.KernelRfl
namespace Go.Proofs.Ytlkmdoebmklbbaa
/- THE CELL 'sum', in the pinned program and in every row, IS THE sha256 OF THE DUMP (.gsa) THAT YtlkmdoebmklbbaaProg.lean LOADS. Nothing in Lean hashes anything: it is a label: what it is worth is what the hold of that sum in a sandbox is worth. -/
noncomputable def Try.pinned : Pinned := { name := "ytlkmdoebmklbbaa", sum := "07440751793793521809513f0f76cd0467d29b473567c8e44617cb8e14d87d58", checked := Try.checked }
namespace Rows
def none {H : Type} : Left H := { results := [], args := [] }

/-- 'laws.FnExactReachIn': WHATEVER THE INPUT: true; the input reads as it did. -/
def fnExactReachInSpec : ChangeSpec := { name := "fnExactReachIn", fn := fun _ => fun
  | [d1, d2] => { results := [.lit (.bool true)], args := [d1, d2] }
  | _ => none }
def fnExactReachInRow : OpenClaim := { program := "ytlkmdoebmklbbaa", sum := "07440751793793521809513f0f76cd0467d29b473567c8e44617cb8e14d87d58", func := "loop.example/drawbar/laws.FnExactReachIn", spec := "fnExactReachIn", unfollowed := true, recurses := true, apart := false }
def FnExactReachInSaid : Prop := fnExactReachInRow.holds Try.pinned (OpenSpec.ofChange fnExactReachInSpec)

/-- ITS FALSE NEIGHBOUR: 'it returns false'. Refute it at one input. -/
def fnExactReachInWrong : ChangeSpec := { name := "fnExactReachIn", fn := fun _ => fun
  | [d1, d2] => { results := [.lit (.bool false)], args := [d1, d2] }
  | _ => none }
def FnExactReachInWrongFalsely : Prop := fnExactReachInRow.holds Try.pinned (OpenSpec.ofChange fnExactReachInWrong)

/-- 'laws.FnReachIn': WHATEVER THE INPUT: true; the input reads as it did. -/
def fnReachInSpec : ChangeSpec := { name := "fnReachIn", fn := fun _ => fun
  | [d] => { results := [.lit (.bool true)], args := [d] }
  | _ => none }
def fnReachInRow : OpenClaim := { program := "ytlkmdoebmklbbaa", sum := "07440751793793521809513f0f76cd0467d29b473567c8e44617cb8e14d87d58", func := "loop.example/drawbar/laws.FnReachIn", spec := "fnReachIn", unfollowed := true, recurses := true, apart := false }
def FnReachInSaid : Prop := fnReachInRow.holds Try.pinned (OpenSpec.ofChange fnReachInSpec)

/-- ITS FALSE NEIGHBOUR: 'it returns false'. Refute it at one input. -/
def fnReachInWrong : ChangeSpec := { name := "fnReachIn", fn := fun _ => fun
  | [d] => { results := [.lit (.bool false)], args := [d] }
  | _ => none }
def FnReachInWrongFalsely : Prop := fnReachInRow.holds Try.pinned (OpenSpec.ofChange fnReachInWrong)

/-- 'laws.FnThingNew': WHATEVER THE INPUT: true; the input reads as it did. -/
def fnThingNewSpec : ChangeSpec := { name := "fnThingNew", fn := fun _ => fun
  | [d] => { results := [.lit (.bool true)], args := [d] }
  | _ => none }
def fnThingNewRow : OpenClaim := { program := "ytlkmdoebmklbbaa", sum := "07440751793793521809513f0f76cd0467d29b473567c8e44617cb8e14d87d58", func := "loop.example/drawbar/laws.FnThingNew", spec := "fnThingNew", apart := false }
def FnThingNewSaid : Prop := fnThingNewRow.holds Try.pinned (OpenSpec.ofChange fnThingNewSpec)

/-- ITS FALSE NEIGHBOUR: 'it returns false'. Refute it at one input. -/
def fnThingNewWrong : ChangeSpec := { name := "fnThingNew", fn := fun _ => fun
  | [d] => { results := [.lit (.bool false)], args := [d] }
  | _ => none }
def FnThingNewWrongFalsely : Prop := fnThingNewRow.holds Try.pinned (OpenSpec.ofChange fnThingNewWrong)

/-- 'laws.FnExactThingNew': WHATEVER THE INPUT: true; the input reads as it did. -/
def fnExactThingNewSpec : ChangeSpec := { name := "fnExactThingNew", fn := fun _ => fun
  | [d1, d2, d3] => { results := [.lit (.bool true)], args := [d1, d2, d3] }
  | _ => none }
def fnExactThingNewRow : OpenClaim := { program := "ytlkmdoebmklbbaa", sum := "07440751793793521809513f0f76cd0467d29b473567c8e44617cb8e14d87d58", func := "loop.example/drawbar/laws.FnExactThingNew", spec := "fnExactThingNew", apart := false }
def FnExactThingNewSaid : Prop := fnExactThingNewRow.holds Try.pinned (OpenSpec.ofChange fnExactThingNewSpec)

/-- ITS FALSE NEIGHBOUR: 'it returns false'. Refute it at one input. -/
def fnExactThingNewWrong : ChangeSpec := { name := "fnExactThingNew", fn := fun _ => fun
  | [d1, d2, d3] => { results := [.lit (.bool false)], args := [d1, d2, d3] }
  | _ => none }
def FnExactThingNewWrongFalsely : Prop := fnExactThingNewRow.holds Try.pinned (OpenSpec.ofChange fnExactThingNewWrong)

/-- 'laws.FnViewHigh': WHATEVER THE INPUT: true; the input reads as it did. -/
def fnViewHighSpec : ChangeSpec := { name := "fnViewHigh", fn := fun _ => fun
  | [d] => { results := [.lit (.bool true)], args := [d] }
  | _ => none }
def fnViewHighRow : OpenClaim := { program := "ytlkmdoebmklbbaa", sum := "07440751793793521809513f0f76cd0467d29b473567c8e44617cb8e14d87d58", func := "loop.example/drawbar/laws.FnViewHigh", spec := "fnViewHigh", unfollowed := true, recurses := true, apart := false }
def FnViewHighSaid : Prop := fnViewHighRow.holds Try.pinned (OpenSpec.ofChange fnViewHighSpec)

/-- ITS FALSE NEIGHBOUR: 'it returns false'. Refute it at one input. -/
def fnViewHighWrong : ChangeSpec := { name := "fnViewHigh", fn := fun _ => fun
  | [d] => { results := [.lit (.bool false)], args := [d] }
  | _ => none }
def FnViewHighWrongFalsely : Prop := fnViewHighRow.holds Try.pinned (OpenSpec.ofChange fnViewHighWrong)

/-- 'laws.FnExactViewHigh': WHATEVER THE INPUT: true; the input reads as it did. -/
def fnExactViewHighSpec : ChangeSpec := { name := "fnExactViewHigh", fn := fun _ => fun
  | [d1, d2, d3] => { results := [.lit (.bool true)], args := [d1, d2, d3] }
  | _ => none }
def fnExactViewHighRow : OpenClaim := { program := "ytlkmdoebmklbbaa", sum := "07440751793793521809513f0f76cd0467d29b473567c8e44617cb8e14d87d58", func := "loop.example/drawbar/laws.FnExactViewHigh", spec := "fnExactViewHigh", unfollowed := true, recurses := true, apart := false }
def FnExactViewHighSaid : Prop := fnExactViewHighRow.holds Try.pinned (OpenSpec.ofChange fnExactViewHighSpec)

/-- ITS FALSE NEIGHBOUR: 'it returns false'. Refute it at one input. -/
def fnExactViewHighWrong : ChangeSpec := { name := "fnExactViewHigh", fn := fun _ => fun
  | [d1, d2, d3] => { results := [.lit (.bool false)], args := [d1, d2, d3] }
  | _ => none }
def FnExactViewHighWrongFalsely : Prop := fnExactViewHighRow.holds Try.pinned (OpenSpec.ofChange fnExactViewHighWrong)

/-- 'laws.FnExactRunQuiet': WHATEVER THE INPUT: true; the input reads as it did. -/
def fnExactRunQuietSpec : ChangeSpec := { name := "fnExactRunQuiet", fn := fun _ => fun
  | [d1, d2, d3] => { results := [.lit (.bool true)], args := [d1, d2, d3] }
  | _ => none }
def fnExactRunQuietRow : OpenClaim := { program := "ytlkmdoebmklbbaa", sum := "07440751793793521809513f0f76cd0467d29b473567c8e44617cb8e14d87d58", func := "loop.example/drawbar/laws.FnExactRunQuiet", spec := "fnExactRunQuiet", unfollowed := true, recurses := true, apart := false }
def FnExactRunQuietSaid : Prop := fnExactRunQuietRow.holds Try.pinned (OpenSpec.ofChange fnExactRunQuietSpec)

/-- ITS FALSE NEIGHBOUR: 'it returns false'. Refute it at one input. -/
def fnExactRunQuietWrong : ChangeSpec := { name := "fnExactRunQuiet", fn := fun _ => fun
  | [d1, d2, d3] => { results := [.lit (.bool false)], args := [d1, d2, d3] }
  | _ => none }
def FnExactRunQuietWrongFalsely : Prop := fnExactRunQuietRow.holds Try.pinned (OpenSpec.ofChange fnExactRunQuietWrong)

/-- 'laws.FnRunLoud': WHATEVER THE INPUT: true; the input reads as it did. -/
def fnRunLoudSpec : ChangeSpec := { name := "fnRunLoud", fn := fun _ => fun
  | [d] => { results := [.lit (.bool true)], args := [d] }
  | _ => none }
def fnRunLoudRow : OpenClaim := { program := "ytlkmdoebmklbbaa", sum := "07440751793793521809513f0f76cd0467d29b473567c8e44617cb8e14d87d58", func := "loop.example/drawbar/laws.FnRunLoud", spec := "fnRunLoud", unfollowed := true, recurses := true, apart := false }
def FnRunLoudSaid : Prop := fnRunLoudRow.holds Try.pinned (OpenSpec.ofChange fnRunLoudSpec)

/-- ITS FALSE NEIGHBOUR: 'it returns false'. Refute it at one input. -/
def fnRunLoudWrong : ChangeSpec := { name := "fnRunLoud", fn := fun _ => fun
  | [d] => { results := [.lit (.bool false)], args := [d] }
  | _ => none }
def FnRunLoudWrongFalsely : Prop := fnRunLoudRow.holds Try.pinned (OpenSpec.ofChange fnRunLoudWrong)

/-- 'laws.FnExactRunLow': WHATEVER THE INPUT: true; the input reads as it did. -/
def fnExactRunLowSpec : ChangeSpec := { name := "fnExactRunLow", fn := fun _ => fun
  | [d1, d2, d3] => { results := [.lit (.bool true)], args := [d1, d2, d3] }
  | _ => none }
def fnExactRunLowRow : OpenClaim := { program := "ytlkmdoebmklbbaa", sum := "07440751793793521809513f0f76cd0467d29b473567c8e44617cb8e14d87d58", func := "loop.example/drawbar/laws.FnExactRunLow", spec := "fnExactRunLow", unfollowed := true, recurses := true, apart := false }
def FnExactRunLowSaid : Prop := fnExactRunLowRow.holds Try.pinned (OpenSpec.ofChange fnExactRunLowSpec)

/-- ITS FALSE NEIGHBOUR: 'it returns false'. Refute it at one input. -/
def fnExactRunLowWrong : ChangeSpec := { name := "fnExactRunLow", fn := fun _ => fun
  | [d1, d2, d3] => { results := [.lit (.bool false)], args := [d1, d2, d3] }
  | _ => none }
def FnExactRunLowWrongFalsely : Prop := fnExactRunLowRow.holds Try.pinned (OpenSpec.ofChange fnExactRunLowWrong)

/-- 'laws.FnLowTwice': WHATEVER THE INPUT: true; the input reads as it did. -/
def fnLowTwiceSpec : ChangeSpec := { name := "fnLowTwice", fn := fun _ => fun
  | [d1, d2] => { results := [.lit (.bool true)], args := [d1, d2] }
  | _ => none }
def fnLowTwiceRow : OpenClaim := { program := "ytlkmdoebmklbbaa", sum := "07440751793793521809513f0f76cd0467d29b473567c8e44617cb8e14d87d58", func := "loop.example/drawbar/laws.FnLowTwice", spec := "fnLowTwice", unfollowed := true, recurses := true, apart := false }
def FnLowTwiceSaid : Prop := fnLowTwiceRow.holds Try.pinned (OpenSpec.ofChange fnLowTwiceSpec)

/-- ITS FALSE NEIGHBOUR: 'it returns false'. Refute it at one input. -/
def fnLowTwiceWrong : ChangeSpec := { name := "fnLowTwice", fn := fun _ => fun
  | [d1, d2] => { results := [.lit (.bool false)], args := [d1, d2] }
  | _ => none }
def FnLowTwiceWrongFalsely : Prop := fnLowTwiceRow.holds Try.pinned (OpenSpec.ofChange fnLowTwiceWrong)

/- THE SECOND FORM. 'bulk': how many values and letters a reading holds, each counted each time it is reached (what is shared counts as often as it is met; a slice's spare places count too). A statement '..UptoSaid' is the law's where the arguments, and the package variables that the reading takes, are together of bulk at most 1048576: NARROWER than '..Said'. Prove '..Said' where nothing that the law and all that it calls make is longer than what came in: it says more and counts as full. Else prove '..UptoSaid'. A law counts once. -/
mutual
def uptoBulk {H : Type} : DataW H → Nat
  | .lit (.string bytes) => bytes.length + 1
  | .lit _ => 1
  | .nil => 1
  | .ptr d => uptoBulk d + 1
  | .slice elems spare => uptoBulkAll elems + uptoBulkAll spare + 1
  | .agg parts => uptoBulkAll parts + 1
  | .iface _ d => uptoBulk d + 1
  | .map entries => uptoBulkEntries entries + 1
  | .held _ => 1
def uptoBulkAll {H : Type} : List (DataW H) → Nat
  | [] => 0
  | d :: r => uptoBulk d + uptoBulkAll r
def uptoBulkEntries {H : Type} : List (Lit × DataW H) → Nat
  | [] => 0
  | x :: r => uptoBulkEntry x + uptoBulkEntries r
def uptoBulkEntry {H : Type} : Lit × DataW H → Nat
  | (.string bytes, d) => bytes.length + uptoBulk d + 1
  | (_, d) => uptoBulk d + 1
 end
def uptoSmall : (H : Type) → List (DataW H) → Bool := fun _ ds => decide (uptoBulkAll ds ≤ 1048576)
def OpenSpec.upto (s : _root_.Go.ChangeSpec) : _root_.Go.OpenSpec := { _root_.Go.OpenSpec.ofChange s with cond := some uptoSmall }

/-- 'laws.FnExactReachIn', WHERE WHAT IT READS IS OF BULK AT MOST 1048576: true; the input reads as it did. -/
def fnExactReachInUptoRow : OpenClaim := { program := "ytlkmdoebmklbbaa", sum := "07440751793793521809513f0f76cd0467d29b473567c8e44617cb8e14d87d58", func := "loop.example/drawbar/laws.FnExactReachIn", spec := "fnExactReachIn", unfollowed := true, recurses := true, apart := false, narrowed := true }
def FnExactReachInUptoSaid : Prop := fnExactReachInUptoRow.holds Try.pinned (OpenSpec.upto fnExactReachInSpec)

/-- 'laws.FnReachIn', WHERE WHAT IT READS IS OF BULK AT MOST 1048576: true; the input reads as it did. -/
def fnReachInUptoRow : OpenClaim := { program := "ytlkmdoebmklbbaa", sum := "07440751793793521809513f0f76cd0467d29b473567c8e44617cb8e14d87d58", func := "loop.example/drawbar/laws.FnReachIn", spec := "fnReachIn", unfollowed := true, recurses := true, apart := false, narrowed := true }
def FnReachInUptoSaid : Prop := fnReachInUptoRow.holds Try.pinned (OpenSpec.upto fnReachInSpec)

/-- 'laws.FnThingNew', WHERE WHAT IT READS IS OF BULK AT MOST 1048576: true; the input reads as it did. -/
def fnThingNewUptoRow : OpenClaim := { program := "ytlkmdoebmklbbaa", sum := "07440751793793521809513f0f76cd0467d29b473567c8e44617cb8e14d87d58", func := "loop.example/drawbar/laws.FnThingNew", spec := "fnThingNew", apart := false, narrowed := true }
def FnThingNewUptoSaid : Prop := fnThingNewUptoRow.holds Try.pinned (OpenSpec.upto fnThingNewSpec)

/-- 'laws.FnExactThingNew', WHERE WHAT IT READS IS OF BULK AT MOST 1048576: true; the input reads as it did. -/
def fnExactThingNewUptoRow : OpenClaim := { program := "ytlkmdoebmklbbaa", sum := "07440751793793521809513f0f76cd0467d29b473567c8e44617cb8e14d87d58", func := "loop.example/drawbar/laws.FnExactThingNew", spec := "fnExactThingNew", apart := false, narrowed := true }
def FnExactThingNewUptoSaid : Prop := fnExactThingNewUptoRow.holds Try.pinned (OpenSpec.upto fnExactThingNewSpec)

/-- 'laws.FnViewHigh', WHERE WHAT IT READS IS OF BULK AT MOST 1048576: true; the input reads as it did. -/
def fnViewHighUptoRow : OpenClaim := { program := "ytlkmdoebmklbbaa", sum := "07440751793793521809513f0f76cd0467d29b473567c8e44617cb8e14d87d58", func := "loop.example/drawbar/laws.FnViewHigh", spec := "fnViewHigh", unfollowed := true, recurses := true, apart := false, narrowed := true }
def FnViewHighUptoSaid : Prop := fnViewHighUptoRow.holds Try.pinned (OpenSpec.upto fnViewHighSpec)

/-- 'laws.FnExactViewHigh', WHERE WHAT IT READS IS OF BULK AT MOST 1048576: true; the input reads as it did. -/
def fnExactViewHighUptoRow : OpenClaim := { program := "ytlkmdoebmklbbaa", sum := "07440751793793521809513f0f76cd0467d29b473567c8e44617cb8e14d87d58", func := "loop.example/drawbar/laws.FnExactViewHigh", spec := "fnExactViewHigh", unfollowed := true, recurses := true, apart := false, narrowed := true }
def FnExactViewHighUptoSaid : Prop := fnExactViewHighUptoRow.holds Try.pinned (OpenSpec.upto fnExactViewHighSpec)

/-- 'laws.FnExactRunQuiet', WHERE WHAT IT READS IS OF BULK AT MOST 1048576: true; the input reads as it did. -/
def fnExactRunQuietUptoRow : OpenClaim := { program := "ytlkmdoebmklbbaa", sum := "07440751793793521809513f0f76cd0467d29b473567c8e44617cb8e14d87d58", func := "loop.example/drawbar/laws.FnExactRunQuiet", spec := "fnExactRunQuiet", unfollowed := true, recurses := true, apart := false, narrowed := true }
def FnExactRunQuietUptoSaid : Prop := fnExactRunQuietUptoRow.holds Try.pinned (OpenSpec.upto fnExactRunQuietSpec)

/-- 'laws.FnRunLoud', WHERE WHAT IT READS IS OF BULK AT MOST 1048576: true; the input reads as it did. -/
def fnRunLoudUptoRow : OpenClaim := { program := "ytlkmdoebmklbbaa", sum := "07440751793793521809513f0f76cd0467d29b473567c8e44617cb8e14d87d58", func := "loop.example/drawbar/laws.FnRunLoud", spec := "fnRunLoud", unfollowed := true, recurses := true, apart := false, narrowed := true }
def FnRunLoudUptoSaid : Prop := fnRunLoudUptoRow.holds Try.pinned (OpenSpec.upto fnRunLoudSpec)

/-- 'laws.FnExactRunLow', WHERE WHAT IT READS IS OF BULK AT MOST 1048576: true; the input reads as it did. -/
def fnExactRunLowUptoRow : OpenClaim := { program := "ytlkmdoebmklbbaa", sum := "07440751793793521809513f0f76cd0467d29b473567c8e44617cb8e14d87d58", func := "loop.example/drawbar/laws.FnExactRunLow", spec := "fnExactRunLow", unfollowed := true, recurses := true, apart := false, narrowed := true }
def FnExactRunLowUptoSaid : Prop := fnExactRunLowUptoRow.holds Try.pinned (OpenSpec.upto fnExactRunLowSpec)

/-- 'laws.FnLowTwice', WHERE WHAT IT READS IS OF BULK AT MOST 1048576: true; the input reads as it did. -/
def fnLowTwiceUptoRow : OpenClaim := { program := "ytlkmdoebmklbbaa", sum := "07440751793793521809513f0f76cd0467d29b473567c8e44617cb8e14d87d58", func := "loop.example/drawbar/laws.FnLowTwice", spec := "fnLowTwice", unfollowed := true, recurses := true, apart := false, narrowed := true }
def FnLowTwiceUptoSaid : Prop := fnLowTwiceUptoRow.holds Try.pinned (OpenSpec.upto fnLowTwiceSpec)

end Rows
end Go.Proofs.Ytlkmdoebmklbbaa
