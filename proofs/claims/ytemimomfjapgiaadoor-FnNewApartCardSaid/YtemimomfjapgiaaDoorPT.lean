/-
  The three listed tables: from the row's hypothesis to the powers of ten that Itoa reads; a world that meets it: the one that the initialisers leave (after the worked proof MapyProofs).
-/
import Derived.Test.YtemimomfjapgiaaDoorSW
import Derived.Test.YtemimomfjapgiaaDoorRows
import Derived.Lib.LaidTab
import Derived.ProofKit
import Derived.LaidMore
import Derived.OpenShut
import Derived.MakeChecks
import Derived.LaidOnce
import Derived.Stop.Joined
namespace Go.Proofs.YtemimomfjapgiaaDoor
open Go.ChangeShapes Go.WideShapes Go.RowKit
set_option maxRecDepth 100000
def laidE : List (String × DataW Unit) := [("math/bits.deBruijn32tab", Rows.laid_math_bits_deBruijn32tab), ("math/bits.deBruijn64tab", Rows.laid_math_bits_deBruijn64tab), ("internal/strconv.uint64pow10", Rows.laid_internal_strconv_uint64pow10)]
theorem at_pow : Tryd.prog.globalNamed "internal/strconv.uint64pow10" = some 0 := by kernel_rfl
theorem ty_pow : (Tryd.prog.globals[0]?).map (·.type) = some 99 := by kernel_rfl
theorem un_pow : Tryd.prog.underlying 99 = some (.array 20 92) := by kernel_rfl
theorem un_u64 : Tryd.prog.underlying 92 = some (.int .u64) := by kernel_rfl
theorem pow_data : (Rows.laid_internal_strconv_uint64pow10 : DataW Unit) = Lib.tabData .u64 Lib.pow10Tab := by
  simp [Rows.laid_internal_strconv_uint64pow10, Lib.tabData, Lib.pow10Tab, List.range, List.range.loop]
theorem powT_of_laid {W : World} (h : laidMetH Tryd.prog laidE W) : Pow10 W := by
  rw [MakeChecks.laidMetH_plain _ _ _ (by kernel_rfl)] at h
  obtain ⟨ps, ⟨g0, t0, cs0, f0, p0, q0, hg0, ht0, hv0, hd0, ⟨g1, t1, cs1, f1, p1, q1, hg1, ht1, hv1, hd1, ⟨g2, t2, cs2, f2, p2, q2, hg2, ht2, hv2, hd2, _, _⟩, _⟩, _⟩, _⟩ := h
  obtain rfl := Option.some.inj (at_pow.symm.trans hg2)
  obtain rfl := Option.some.inj (ty_pow.symm.trans ht2)
  rw [pow_data] at hd2
  unfold Pow10 Lib.TabIs
  rw [hv2, ← Lib.cells_of_tab un_pow un_u64 (by kernel_rfl) (by kernel_rfl) hd2]
theorem laidWorld_met (os : Os) (args : Array Value) : laidMetH Tryd.prog laidE ((World.doorLaid Tryd.prog 24 os).forCall (fun _ _ => 0) ⟨#[], args, []⟩).memory :=
  laidMetH_of_parts3 (fuel := 8) (laidMet_of_run' 8 (by kernel_rfl) (by kernel_rfl)) (by kernel_rfl) (by kernel_rfl)
end Go.Proofs.YtemimomfjapgiaaDoor
