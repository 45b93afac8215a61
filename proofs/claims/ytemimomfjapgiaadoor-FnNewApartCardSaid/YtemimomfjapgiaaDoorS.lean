/- Walks, printed by a program of mine (gen.py) out of the functions. -/
import Derived.Test.YtemimomfjapgiaaDoorB
namespace Go.Proofs.YtemimomfjapgiaaDoor
open Go.RowKit Go.Dw
set_option maxRecDepth 100000
set_option maxHeartbeats 4000000
set_option linter.unusedSimpArgs false
set_option linter.unusedVariables false

theorem capOf_t (r : Rt) (hr : decide (r.th = 0) = true) (w : World) : CallsR Tryd.prog 59 #[.agg #[.int .i64 r.th, .int .i64 r.ve, .bool r.rd, .bool r.wr, .bool r.wk]] w (fun v w' => v = .iface 88 (.agg #[]) ∧ w.grownBy w' none) := by
 refine calls_of_wpf (n := 11) Tryd.func59 rfl Tryd.ntmps59 rfl ?_
 have hb0 := World.grownBy.refl w none
 refine wpf_seq_region ?_
 refine wpo_box (v := .agg #[.int .i64 r.th, .int .i64 r.ve, .bool r.rd, .bool r.wr, .bool r.wk]) (cs := #[.int .i64 r.th, .int .i64 r.ve, .bool r.rd, .bool r.wr, .bool r.wk]) rfl rfl rfl ?_
 intro B101 w102 hN103
 have hlB101 := hN_ge hN103 hb0
 have hb104 := low0 hb0 hN103.grw
 refine wpo_assign (v := .nilIface) rfl rfl ?_
 refine wpo_nil ?_
 refine wpf_seq ?_
 refine wpf_seq_region ?_
 refine wpo_fieldAddr (o' := 0) fo_39_0 rfl rfl rfl ?_
 refine wpo_load1 (v := .int .i64 r.th) ot_3 rfl (hN103.blk.cell rfl) rfl ?_
 refine wpo_eql (q := decide (r.th = 0)) rfl rfl rfl rfl ?_
 refine wpo_nil ?_
 refine wpf_condt rfl hr ?_
 refine wpf_seq_region ?_
 refine wpo_build (ps := []) (v := .agg #[]) parts_nil (by kernel_rfl) rfl ?_
 refine wpo_iface (v := .agg #[]) (by kernel_rfl) rfl rfl ?_
 refine wpo_assign (v := .iface 88 (.agg #[])) rfl rfl ?_
 refine wpo_nil ?_
 refine wpf_ret ?_
 refine thn_r ?_
 refine ⟨.iface 88 (.agg #[]), res1 rfl rfl, ?_, hb104⟩
 rfl

theorem capOf_f (r : Rt) (hr : decide (r.th = 0) = false) (w : World) : CallsR Tryd.prog 59 #[.agg #[.int .i64 r.th, .int .i64 r.ve, .bool r.rd, .bool r.wr, .bool r.wk]] w (fun v w' => v = .iface 90 (.agg #[.int .i64 r.th, .int .i64 r.ve, .bool r.rd, .bool r.wr, .bool r.wk]) ∧ w.grownBy w' none) := by
 refine calls_of_wpf (n := 11) Tryd.func59 rfl Tryd.ntmps59 rfl ?_
 have hb0 := World.grownBy.refl w none
 refine wpf_seq_region ?_
 refine wpo_box (v := .agg #[.int .i64 r.th, .int .i64 r.ve, .bool r.rd, .bool r.wr, .bool r.wk]) (cs := #[.int .i64 r.th, .int .i64 r.ve, .bool r.rd, .bool r.wr, .bool r.wk]) rfl rfl rfl ?_
 intro B101 w102 hN103
 have hlB101 := hN_ge hN103 hb0
 have hb104 := low0 hb0 hN103.grw
 refine wpo_assign (v := .nilIface) rfl rfl ?_
 refine wpo_nil ?_
 refine wpf_seq ?_
 refine wpf_seq_region ?_
 refine wpo_fieldAddr (o' := 0) fo_39_0 rfl rfl rfl ?_
 refine wpo_load1 (v := .int .i64 r.th) ot_3 rfl (hN103.blk.cell rfl) rfl ?_
 refine wpo_eql (q := decide (r.th = 0)) rfl rfl rfl rfl ?_
 refine wpo_nil ?_
 refine wpf_condf rfl hr ?_
 refine wpf_skip ?_
 refine thn_n ?_
 refine wpf_seq_region ?_
 refine wpo_loadn (vs := [.int .i64 r.th, .int .i64 r.ve, .bool r.rd, .bool r.wr, .bool r.wk]) rt_39 rfl rfl (hN103.blk.rangeL 0 5 rfl) rfl ?_
 refine wpo_build (ps := [(0, .agg #[.int .i64 r.th, .int .i64 r.ve, .bool r.rd, .bool r.wr, .bool r.wk])]) (v := .agg #[.int .i64 r.th, .int .i64 r.ve, .bool r.rd, .bool r.wr, .bool r.wk]) (parts_cons rfl parts_nil) (by kernel_rfl) rfl ?_
 refine wpo_iface (v := .agg #[.int .i64 r.th, .int .i64 r.ve, .bool r.rd, .bool r.wr, .bool r.wk]) (by kernel_rfl) rfl rfl ?_
 refine wpo_assign (v := .iface 90 (.agg #[.int .i64 r.th, .int .i64 r.ve, .bool r.rd, .bool r.wr, .bool r.wk])) rfl rfl ?_
 refine wpo_nil ?_
 refine wpf_ret ?_
 refine ⟨.iface 90 (.agg #[.int .i64 r.th, .int .i64 r.ve, .bool r.rd, .bool r.wr, .bool r.wk]), res1 rfl rfl, ?_, hb104⟩
 rfl

end Go.Proofs.YtemimomfjapgiaaDoor
