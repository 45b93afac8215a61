/- Walks, printed by a program of mine (gen.py) out of the functions. -/
import Derived.Test.YtlkmdoebmklbbaaB
namespace Go.Proofs.Ytlkmdoebmklbbaa
open Go.RowKit Go.Dw
set_option maxRecDepth 100000
set_option maxHeartbeats 4000000
set_option linter.unusedSimpArgs false
set_option linter.unusedVariables false
theorem es_22 : elemSz Try.prog 22 = some 5 := by kernel_rfl
theorem es_27 : elemSz Try.prog 27 = some 5 := by kernel_rfl
theorem fo_125_0 : fieldOff Try.prog 125 0 = some 0 := by kernel_rfl
theorem fo_24_0 : fieldOff Try.prog 24 0 = some 0 := by kernel_rfl
theorem fo_24_1 : fieldOff Try.prog 24 1 = some 1 := by kernel_rfl
theorem fo_24_2 : fieldOff Try.prog 24 2 = some 2 := by kernel_rfl
theorem fo_24_3 : fieldOff Try.prog 24 3 = some 3 := by kernel_rfl
theorem fo_24_4 : fieldOff Try.prog 24 4 = some 4 := by kernel_rfl
theorem gf_13 : goFn Try.prog 13 = true := by kernel_rfl
theorem gf_14 : goFn Try.prog 14 = true := by kernel_rfl
theorem gf_15 : goFn Try.prog 15 = true := by kernel_rfl
theorem gf_16 : goFn Try.prog 16 = true := by kernel_rfl
theorem gf_17 : goFn Try.prog 17 = true := by kernel_rfl
theorem gf_18 : goFn Try.prog 18 = true := by kernel_rfl
theorem gf_20 : goFn Try.prog 20 = true := by kernel_rfl
theorem gf_21 : goFn Try.prog 21 = true := by kernel_rfl
theorem gf_55 : goFn Try.prog 55 = true := by kernel_rfl
theorem gf_56 : goFn Try.prog 56 = true := by kernel_rfl
theorem gf_57 : goFn Try.prog 57 = true := by kernel_rfl
theorem gf_58 : goFn Try.prog 58 = true := by kernel_rfl
theorem gf_63 : goFn Try.prog 63 = true := by kernel_rfl
theorem gf_64 : goFn Try.prog 64 = true := by kernel_rfl
theorem gf_98 : goFn Try.prog 98 = true := by kernel_rfl
theorem gf_99 : goFn Try.prog 99 = true := by kernel_rfl
theorem mk_27 : mkTy Try.prog 27 = some (29, 5, 24, some (.agg #[.int .i64 0, .int .i64 0, .bool false, .bool false, .bool false])) := by kernel_rfl
theorem rt_123 : rowTy Try.prog 123 = some 0 := by kernel_rfl
theorem rt_125 : rowTy Try.prog 125 = some 5 := by kernel_rfl
theorem rt_24 : rowTy Try.prog 24 = some 5 := by kernel_rfl
theorem zt_123 : zeroTy Try.prog 123 = some (.agg #[]) := by kernel_rfl
theorem zt_125 : zeroTy Try.prog 125 = some (.agg #[.int .i64 0, .int .i64 0, .bool false, .bool false, .bool false]) := by kernel_rfl
theorem capOf_t (r : Rt) (hr : decide (r.th = 0) = true) (w : World) : CallsR Try.prog 64 #[.agg #[.int .i64 r.th, .int .i64 r.ve, .bool r.rd, .bool r.wr, .bool r.wk]] w (fun v w' => v = .iface 123 (.agg #[]) ∧ w.grownBy w' none) := by
 refine calls_of_wpf (n := 11) Try.func64 rfl Try.ntmps64 rfl ?_
 have hb0 := World.grownBy.refl w none
 refine wpf_seq_region ?_
 refine wpo_box (v := .agg #[.int .i64 r.th, .int .i64 r.ve, .bool r.rd, .bool r.wr, .bool r.wk]) (cs := #[.int .i64 r.th, .int .i64 r.ve, .bool r.rd, .bool r.wr, .bool r.wk]) rfl rfl rfl ?_
 intro B376 w377 hN378
 have hlB376 := hN_ge hN378 hb0
 have hb379 := low0 hb0 hN378.grw
 refine wpo_assign (v := .nilIface) rfl rfl ?_
 refine wpo_nil ?_
 refine wpf_seq ?_
 refine wpf_seq_region ?_
 refine wpo_fieldAddr (o' := 0) fo_29_0 rfl rfl rfl ?_
 refine wpo_load1 (v := .int .i64 r.th) ot_3 rfl (hN378.blk.cell rfl) rfl ?_
 refine wpo_eql (q := decide (r.th = 0)) rfl rfl rfl rfl ?_
 refine wpo_nil ?_
 refine wpf_condt rfl hr ?_
 refine wpf_seq_region ?_
 refine wpo_build (ps := []) (v := .agg #[]) parts_nil (by kernel_rfl) rfl ?_
 refine wpo_iface (v := .agg #[]) (by kernel_rfl) rfl rfl ?_
 refine wpo_assign (v := .iface 123 (.agg #[])) rfl rfl ?_
 refine wpo_nil ?_
 refine wpf_ret ?_
 refine thn_r ?_
 refine ⟨.iface 123 (.agg #[]), res1 rfl rfl, ?_, hb379⟩
 rfl

theorem capOf_f (r : Rt) (hr : decide (r.th = 0) = false) (w : World) : CallsR Try.prog 64 #[.agg #[.int .i64 r.th, .int .i64 r.ve, .bool r.rd, .bool r.wr, .bool r.wk]] w (fun v w' => v = .iface 125 (.agg #[.int .i64 r.th, .int .i64 r.ve, .bool r.rd, .bool r.wr, .bool r.wk]) ∧ w.grownBy w' none) := by
 refine calls_of_wpf (n := 11) Try.func64 rfl Try.ntmps64 rfl ?_
 have hb0 := World.grownBy.refl w none
 refine wpf_seq_region ?_
 refine wpo_box (v := .agg #[.int .i64 r.th, .int .i64 r.ve, .bool r.rd, .bool r.wr, .bool r.wk]) (cs := #[.int .i64 r.th, .int .i64 r.ve, .bool r.rd, .bool r.wr, .bool r.wk]) rfl rfl rfl ?_
 intro B380 w381 hN382
 have hlB380 := hN_ge hN382 hb0
 have hb383 := low0 hb0 hN382.grw
 refine wpo_assign (v := .nilIface) rfl rfl ?_
 refine wpo_nil ?_
 refine wpf_seq ?_
 refine wpf_seq_region ?_
 refine wpo_fieldAddr (o' := 0) fo_29_0 rfl rfl rfl ?_
 refine wpo_load1 (v := .int .i64 r.th) ot_3 rfl (hN382.blk.cell rfl) rfl ?_
 refine wpo_eql (q := decide (r.th = 0)) rfl rfl rfl rfl ?_
 refine wpo_nil ?_
 refine wpf_condf rfl hr ?_
 refine wpf_skip ?_
 refine thn_n ?_
 refine wpf_seq_region ?_
 refine wpo_loadn (vs := [.int .i64 r.th, .int .i64 r.ve, .bool r.rd, .bool r.wr, .bool r.wk]) rt_29 rfl rfl (hN382.blk.rangeL 0 5 rfl) rfl ?_
 refine wpo_build (ps := [(0, .agg #[.int .i64 r.th, .int .i64 r.ve, .bool r.rd, .bool r.wr, .bool r.wk])]) (v := .agg #[.int .i64 r.th, .int .i64 r.ve, .bool r.rd, .bool r.wr, .bool r.wk]) (parts_cons rfl parts_nil) (by kernel_rfl) rfl ?_
 refine wpo_iface (v := .agg #[.int .i64 r.th, .int .i64 r.ve, .bool r.rd, .bool r.wr, .bool r.wk]) (by kernel_rfl) rfl rfl ?_
 refine wpo_assign (v := .iface 125 (.agg #[.int .i64 r.th, .int .i64 r.ve, .bool r.rd, .bool r.wr, .bool r.wk])) rfl rfl ?_
 refine wpo_nil ?_
 refine wpf_ret ?_
 refine ⟨.iface 125 (.agg #[.int .i64 r.th, .int .i64 r.ve, .bool r.rd, .bool r.wr, .bool r.wk]), res1 rfl rfl, ?_, hb383⟩
 rfl

theorem capIn_n (u : Value) (w : World) : CallsR Try.prog 63 #[.iface 123 (.agg #[]), u] w (fun v w' => v = .bool true ∧ w.grownBy w' none) := by
 refine calls_of_wpf (n := 68) Try.func63 rfl Try.ntmps63 rfl ?_
 have hb0 := World.grownBy.refl w none
 refine wpf_seq_region ?_
 refine wpo_assign (v := .bool false) rfl rfl ?_
 refine wpo_nil ?_
 refine wpf_seq ?_
 refine wpf_seq_region ?_
 refine wpo_move (v := .iface 123 (.agg #[])) rfl rfl ?_
 refine wpo_nil ?_
 refine wpf_block ?_
 refine wpf_seq_region ?_
 refine wpo_assert (u := .iface 123 (.agg #[])) (v := .tuple #[.agg #[], .bool true]) rfl (by kernel_rfl) rfl ?_
 refine wpo_extract (v := .bool true) rfl rfl rfl ?_
 refine wpo_extract (v := .agg #[]) rfl rfl rfl ?_
 refine wpo_nil ?_
 refine wpf_condt rfl rfl ?_
 refine wpf_seq_region ?_
 refine wpo_alloc (cs := #[]) zt_123 rfl rfl ?_
 intro B384 w385 hN386
 have hlB384 := hN_ge hN386 hb0
 have hb387 := low0 hb0 hN386.grw
 refine wpo_storen (vs := []) (cs' := #[]) rt_123 rfl rfl rfl (by simp [Value.oneCell']) hN386.blk (Nat.le_of_ble_eq_true rfl) rfl ?_
 intro w388 hS389
 have hb390 := low1 hb387 hS389.grw (by omega)
 refine wpo_nil ?_
 refine wpf_seq_region ?_
 refine wpo_assign (v := .bool true) rfl rfl ?_
 refine wpo_nil ?_
 refine wpf_ret ?_
 refine blk_r ?_
 refine thn_r ?_
 refine ⟨.bool true, res1 rfl rfl, ?_, hb390⟩
 rfl

theorem capIn_f (a : Rt) (w : World) : CallsR Try.prog 63 #[.iface 125 (.agg #[.int .i64 a.th, .int .i64 a.ve, .bool a.rd, .bool a.wr, .bool a.wk]), .iface 123 (.agg #[])] w (fun v w' => v = .bool false ∧ w.grownBy w' none) := by
 refine calls_of_wpf (n := 68) Try.func63 rfl Try.ntmps63 rfl ?_
 have hb0 := World.grownBy.refl w none
 refine wpf_seq_region ?_
 refine wpo_assign (v := .bool false) rfl rfl ?_
 refine wpo_nil ?_
 refine wpf_seq ?_
 refine wpf_seq_region ?_
 refine wpo_move (v := .iface 125 (.agg #[.int .i64 a.th, .int .i64 a.ve, .bool a.rd, .bool a.wr, .bool a.wk])) rfl rfl ?_
 refine wpo_nil ?_
 refine wpf_block ?_
 refine wpf_seq_region ?_
 refine wpo_assert (u := .iface 125 (.agg #[.int .i64 a.th, .int .i64 a.ve, .bool a.rd, .bool a.wr, .bool a.wk])) (v := .tuple #[.agg #[], .bool false]) rfl (by kernel_rfl) rfl ?_
 refine wpo_extract (v := .bool false) rfl rfl rfl ?_
 refine wpo_extract (v := .agg #[]) rfl rfl rfl ?_
 refine wpo_nil ?_
 refine wpf_condf rfl rfl ?_
 refine wpf_seq_region ?_
 refine wpo_assert (u := .iface 125 (.agg #[.int .i64 a.th, .int .i64 a.ve, .bool a.rd, .bool a.wr, .bool a.wk])) (v := .tuple #[.agg #[.int .i64 a.th, .int .i64 a.ve, .bool a.rd, .bool a.wr, .bool a.wk], .bool true]) rfl (by kernel_rfl) rfl ?_
 refine wpo_extract (v := .bool true) rfl rfl rfl ?_
 refine wpo_extract (v := .agg #[.int .i64 a.th, .int .i64 a.ve, .bool a.rd, .bool a.wr, .bool a.wk]) rfl rfl rfl ?_
 refine wpo_nil ?_
 refine wpf_condt rfl rfl ?_
 refine wpf_seq_region ?_
 refine wpo_alloc (cs := #[.int .i64 0, .int .i64 0, .bool false, .bool false, .bool false]) zt_125 rfl rfl ?_
 intro B391 w392 hN393
 have hlB391 := hN_ge hN393 hb0
 have hb394 := low0 hb0 hN393.grw
 refine wpo_storen (vs := [.int .i64 a.th, .int .i64 a.ve, .bool a.rd, .bool a.wr, .bool a.wk]) (cs' := #[.int .i64 a.th, .int .i64 a.ve, .bool a.rd, .bool a.wr, .bool a.wk]) rt_125 rfl rfl rfl (by simp [Value.oneCell']) hN393.blk (Nat.le_of_ble_eq_true rfl) rfl ?_
 intro w395 hS396
 have hb397 := low1 hb394 hS396.grw (by omega)
 refine wpo_nil ?_
 refine wpf_seq_region ?_
 refine wpo_move (v := .iface 123 (.agg #[])) rfl rfl ?_
 refine wpo_assert (u := .iface 123 (.agg #[])) (v := .tuple #[.agg #[.int .i64 0, .int .i64 0, .bool false, .bool false, .bool false], .bool false]) rfl (by kernel_rfl) rfl ?_
 refine wpo_move (v := .tuple #[.agg #[.int .i64 0, .int .i64 0, .bool false, .bool false, .bool false], .bool false]) rfl rfl ?_
 refine wpo_extract (v := .agg #[.int .i64 0, .int .i64 0, .bool false, .bool false, .bool false]) rfl rfl rfl ?_
 refine wpo_extract (v := .bool false) rfl rfl rfl ?_
 refine wpo_alloc (cs := #[.int .i64 0, .int .i64 0, .bool false, .bool false, .bool false]) zt_125 rfl rfl ?_
 intro B398 w399 hN400
 have hlB398 := hN_ge hN400 hb397
 have lt_B391_B398 := hN_gtl hN400 (hS396.blk).lt
 have hb401 := low0 hb397 hN400.grw
 refine wpo_storen (vs := [.int .i64 0, .int .i64 0, .bool false, .bool false, .bool false]) (cs' := #[.int .i64 0, .int .i64 0, .bool false, .bool false, .bool false]) rt_125 rfl rfl rfl (by simp [Value.oneCell']) hN400.blk (Nat.le_of_ble_eq_true rfl) rfl ?_
 intro w402 hS403
 have hb404 := low1 hb401 hS403.grw (by omega)
 refine wpo_assign (v := .bool false) rfl rfl ?_
 refine wpo_nil ?_
 refine wpf_seq ?_
 refine wpf_seq_region ?_
 refine wpo_move (v := .bool false) rfl rfl ?_
 refine wpo_not (b' := true) rfl rfl rfl ?_
 refine wpo_nil ?_
 refine wpf_condt rfl rfl ?_
 refine wpf_seq_region ?_
 refine wpo_assign (v := .bool false) rfl rfl ?_
 refine wpo_nil ?_
 refine wpf_ret ?_
 refine thn_r ?_
 refine blk_r ?_
 refine thn_r ?_
 refine ⟨.bool false, res1 rfl rfl, ?_, hb404⟩
 rfl

theorem capIn_r (a b : Rt) (w : World) : CallsR Try.prog 63 #[.iface 125 (.agg #[.int .i64 a.th, .int .i64 a.ve, .bool a.rd, .bool a.wr, .bool a.wk]), .iface 125 (.agg #[.int .i64 b.th, .int .i64 b.ve, .bool b.rd, .bool b.wr, .bool b.wk])] w (fun v w' => v = .bool (l2x a b) ∧ w.grownBy w' none) := by
 refine calls_of_wpf (n := 68) Try.func63 rfl Try.ntmps63 rfl ?_
 have hb0 := World.grownBy.refl w none
 refine wpf_seq_region ?_
 refine wpo_assign (v := .bool false) rfl rfl ?_
 refine wpo_nil ?_
 refine wpf_seq ?_
 refine wpf_seq_region ?_
 refine wpo_move (v := .iface 125 (.agg #[.int .i64 a.th, .int .i64 a.ve, .bool a.rd, .bool a.wr, .bool a.wk])) rfl rfl ?_
 refine wpo_nil ?_
 refine wpf_block ?_
 refine wpf_seq_region ?_
 refine wpo_assert (u := .iface 125 (.agg #[.int .i64 a.th, .int .i64 a.ve, .bool a.rd, .bool a.wr, .bool a.wk])) (v := .tuple #[.agg #[], .bool false]) rfl (by kernel_rfl) rfl ?_
 refine wpo_extract (v := .bool false) rfl rfl rfl ?_
 refine wpo_extract (v := .agg #[]) rfl rfl rfl ?_
 refine wpo_nil ?_
 refine wpf_condf rfl rfl ?_
 refine wpf_seq_region ?_
 refine wpo_assert (u := .iface 125 (.agg #[.int .i64 a.th, .int .i64 a.ve, .bool a.rd, .bool a.wr, .bool a.wk])) (v := .tuple #[.agg #[.int .i64 a.th, .int .i64 a.ve, .bool a.rd, .bool a.wr, .bool a.wk], .bool true]) rfl (by kernel_rfl) rfl ?_
 refine wpo_extract (v := .bool true) rfl rfl rfl ?_
 refine wpo_extract (v := .agg #[.int .i64 a.th, .int .i64 a.ve, .bool a.rd, .bool a.wr, .bool a.wk]) rfl rfl rfl ?_
 refine wpo_nil ?_
 refine wpf_condt rfl rfl ?_
 refine wpf_seq_region ?_
 refine wpo_alloc (cs := #[.int .i64 0, .int .i64 0, .bool false, .bool false, .bool false]) zt_125 rfl rfl ?_
 intro B405 w406 hN407
 have hlB405 := hN_ge hN407 hb0
 have hb408 := low0 hb0 hN407.grw
 refine wpo_storen (vs := [.int .i64 a.th, .int .i64 a.ve, .bool a.rd, .bool a.wr, .bool a.wk]) (cs' := #[.int .i64 a.th, .int .i64 a.ve, .bool a.rd, .bool a.wr, .bool a.wk]) rt_125 rfl rfl rfl (by simp [Value.oneCell']) hN407.blk (Nat.le_of_ble_eq_true rfl) rfl ?_
 intro w409 hS410
 have hb411 := low1 hb408 hS410.grw (by omega)
 refine wpo_nil ?_
 refine wpf_seq_region ?_
 refine wpo_move (v := .iface 125 (.agg #[.int .i64 b.th, .int .i64 b.ve, .bool b.rd, .bool b.wr, .bool b.wk])) rfl rfl ?_
 refine wpo_assert (u := .iface 125 (.agg #[.int .i64 b.th, .int .i64 b.ve, .bool b.rd, .bool b.wr, .bool b.wk])) (v := .tuple #[.agg #[.int .i64 b.th, .int .i64 b.ve, .bool b.rd, .bool b.wr, .bool b.wk], .bool true]) rfl (by kernel_rfl) rfl ?_
 refine wpo_move (v := .tuple #[.agg #[.int .i64 b.th, .int .i64 b.ve, .bool b.rd, .bool b.wr, .bool b.wk], .bool true]) rfl rfl ?_
 refine wpo_extract (v := .agg #[.int .i64 b.th, .int .i64 b.ve, .bool b.rd, .bool b.wr, .bool b.wk]) rfl rfl rfl ?_
 refine wpo_extract (v := .bool true) rfl rfl rfl ?_
 refine wpo_alloc (cs := #[.int .i64 0, .int .i64 0, .bool false, .bool false, .bool false]) zt_125 rfl rfl ?_
 intro B412 w413 hN414
 have hlB412 := hN_ge hN414 hb411
 have lt_B405_B412 := hN_gtl hN414 (hS410.blk).lt
 have hb415 := low0 hb411 hN414.grw
 refine wpo_storen (vs := [.int .i64 b.th, .int .i64 b.ve, .bool b.rd, .bool b.wr, .bool b.wk]) (cs' := #[.int .i64 b.th, .int .i64 b.ve, .bool b.rd, .bool b.wr, .bool b.wk]) rt_125 rfl rfl rfl (by simp [Value.oneCell']) hN414.blk (Nat.le_of_ble_eq_true rfl) rfl ?_
 intro w416 hS417
 have hb418 := low1 hb415 hS417.grw (by omega)
 refine wpo_assign (v := .bool true) rfl rfl ?_
 refine wpo_nil ?_
 refine wpf_seq ?_
 refine wpf_seq_region ?_
 refine wpo_move (v := .bool true) rfl rfl ?_
 refine wpo_not (b' := false) rfl rfl rfl ?_
 refine wpo_nil ?_
 refine wpf_condf rfl rfl ?_
 refine wpf_skip ?_
 refine thn_n ?_
 refine wpf_seq ?_
 refine wpf_drawI (m := 7) [[], [0], [], [2], [], [], [0, 1, 4, 5], [0, 1, 2, 3, 4, 5, 6]] (fun S F w' => ∃ (B469 : Nat) (B473 : Nat), w416.grownBy w' none ∧ F 4 = .bool false ∧ F 6 = .pointer (some ⟨B405, 0, none⟩) ∧ F 7 = .pointer (some ⟨B412, 0, none⟩) ∧ (S 0 = true → F 25 = .pointer (some ⟨B405, 0, none⟩)) ∧ (S 1 = true → F 26 = .agg #[.int .i64 a.th, .int .i64 a.ve, .bool a.rd, .bool a.wr, .bool a.wk]) ∧ (S 2 = true → F 27 = .pointer (some ⟨B412, 0, none⟩)) ∧ (S 3 = true → F 28 = .agg #[.int .i64 b.th, .int .i64 b.ve, .bool b.rd, .bool b.wr, .bool b.wk]) ∧ (S 4 = true → F 9 = .pointer (some ⟨B469, 0, none⟩) ∧ w.heap.size ≤ B469 ∧ (S 6 = false → Blk w' B469 29 #[.int .i64 0, .int .i64 0, .bool false, .bool false, .bool false]) ∧ B405 < B469 ∧ B412 < B469 ∧ w416.heap.size ≤ B469) ∧ (S 5 = true → F 10 = .pointer (some ⟨B473, 0, none⟩) ∧ w.heap.size ≤ B473 ∧ Blk w' B473 29 #[.int .i64 0, .int .i64 0, .bool false, .bool false, .bool false] ∧ B405 < B473 ∧ B412 < B473 ∧ w416.heap.size ≤ B473) ∧ (S 6 = true → Blk w' B469 29 #[.int .i64 a.th, .int .i64 a.ve, .bool a.rd, .bool a.wr, .bool a.wk]) ∧ (S 4 = true → S 5 = true → B469 ≠ B473)) mixed_ (by kernel_rfl) ⟨0, 0, grown_drew _, rfl, rfl, rfl, fun h => not_begun h, fun h => not_begun h, fun h => not_begun h, fun h => not_begun h, fun h => not_begun h, fun h => not_begun h, fun h => not_begun h, fun h => not_begun h⟩ ?_ ?_
 ·
  refine preL_cons (fun S F w483 hS hbef hcl hI => ?_) ?_
  ·
   obtain ⟨B469, B473, hi484, e485, e486, e487, c_0, c_1, c_2, c_3, c_4, c_5, c_6, pr_B469_B473⟩ := hI
   have hb488 := low0 hb418 hi484
   refine wpo_fieldAddr (o' := 0) fo_125_0 e486 rfl rfl ?_
   exact wpo_nil ⟨B469, B473, hi484, e485, e486, e487, fun _ => rfl, fun h => undone 1 hS hcl rfl h, c_2, c_3, c_4, c_5, fun h => undone 6 hS hcl rfl h, pr_B469_B473⟩
  refine preL_cons (fun S F w489 hS hbef hcl hI => ?_) ?_
  ·
   obtain ⟨B469, B473, hi490, e491, e492, e493, c_0, c_1, c_2, c_3, c_4, c_5, c_6, pr_B469_B473⟩ := hI
   have hb494 := low0 hb418 hi490
   obtain e495 := c_0 (ready_of 0 hbef rfl)
   have k496 := (((hS410.blk.grown0 hN414.grw).grown hS417.grw (some_ne (by omega))).grown0 hi490)
   refine wpo_loadn (vs := [.int .i64 a.th, .int .i64 a.ve, .bool a.rd, .bool a.wr, .bool a.wk]) rt_29 e495 rfl (k496.rangeL 0 5 rfl) rfl ?_
   exact wpo_nil ⟨B469, B473, hi490, e491, e492, e493, c_0, fun _ => rfl, c_2, c_3, c_4, c_5, fun h => undone 6 hS hcl rfl h, pr_B469_B473⟩
  refine preL_cons (fun S F w497 hS hbef hcl hI => ?_) ?_
  ·
   obtain ⟨B469, B473, hi498, e499, e500, e501, c_0, c_1, c_2, c_3, c_4, c_5, c_6, pr_B469_B473⟩ := hI
   have hb502 := low0 hb418 hi498
   refine wpo_fieldAddr (o' := 0) fo_125_0 e501 rfl rfl ?_
   exact wpo_nil ⟨B469, B473, hi498, e499, e500, e501, c_0, c_1, fun _ => rfl, fun h => undone 3 hS hcl rfl h, c_4, c_5, c_6, pr_B469_B473⟩
  refine preL_cons (fun S F w503 hS hbef hcl hI => ?_) ?_
  ·
   obtain ⟨B469, B473, hi504, e505, e506, e507, c_0, c_1, c_2, c_3, c_4, c_5, c_6, pr_B469_B473⟩ := hI
   have hb508 := low0 hb418 hi504
   obtain e509 := c_2 (ready_of 2 hbef rfl)
   have k510 := (hS417.blk.grown0 hi504)
   refine wpo_loadn (vs := [.int .i64 b.th, .int .i64 b.ve, .bool b.rd, .bool b.wr, .bool b.wk]) rt_29 e509 rfl (k510.rangeL 0 5 rfl) rfl ?_
   exact wpo_nil ⟨B469, B473, hi504, e505, e506, e507, c_0, c_1, c_2, fun _ => rfl, c_4, c_5, c_6, pr_B469_B473⟩
  refine preL_cons (fun S F w511 hS hbef hcl hI => ?_) ?_
  ·
   obtain ⟨B469, B473, hi512, e513, e514, e515, c_0, c_1, c_2, c_3, c_4, c_5, c_6, pr_B469_B473⟩ := hI
   have hb516 := low0 hb418 hi512
   refine wpo_alloc (cs := #[.int .i64 0, .int .i64 0, .bool false, .bool false, .bool false]) zt_29 rfl rfl ?_
   intro B517 w518 hN519
   have hlB517 := hN_ge hN519 hb516
   have k520 := (((hS410.blk.grown0 hN414.grw).grown hS417.grw (some_ne (by omega))).grown0 hi512)
   have lt_B405_B517 := hN_gtl hN519 (k520).lt
   have k521 := (hS417.blk.grown0 hi512)
   have lt_B412_B517 := hN_gtl hN519 (k521).lt
   have hb522 := low0 hb516 hN519.grw
   exact wpo_nil ⟨B517, B473, (low0 hi512 hN519.grw), e513, e514, e515, c_0, c_1, c_2, c_3, fun _ => ⟨rfl, hlB517, fun _ => hN519.blk, lt_B405_B517, lt_B412_B517, (Nat.le_trans hi512.size (Nat.le_of_eq hN519.eq.symm))⟩, fun h => let ⟨y523, y524, y525, y526, y527, y528⟩ := c_5 h; ⟨y523, y524, (y525).grown0 hN519.grw, y526, y527, y528⟩, fun h => undone 6 hS hcl rfl h, fun _ h => let ⟨y529, y530, y531, y532, y533, y534⟩ := c_5 h; Nat.ne_of_gt (Nat.lt_of_lt_of_le (Blk.lt y531) (Nat.le_of_eq hN519.eq.symm))⟩
  refine preL_cons (fun S F w535 hS hbef hcl hI => ?_) ?_
  ·
   obtain ⟨B469, B473, hi536, e537, e538, e539, c_0, c_1, c_2, c_3, c_4, c_5, c_6, pr_B469_B473⟩ := hI
   have hb540 := low0 hb418 hi536
   refine wpo_alloc (cs := #[.int .i64 0, .int .i64 0, .bool false, .bool false, .bool false]) zt_29 rfl rfl ?_
   intro B541 w542 hN543
   have hlB541 := hN_ge hN543 hb540
   have k544 := (((hS410.blk.grown0 hN414.grw).grown hS417.grw (some_ne (by omega))).grown0 hi536)
   have lt_B405_B541 := hN_gtl hN543 (k544).lt
   have k545 := (hS417.blk.grown0 hi536)
   have lt_B412_B541 := hN_gtl hN543 (k545).lt
   have hb546 := low0 hb540 hN543.grw
   exact wpo_nil ⟨B469, B541, (low0 hi536 hN543.grw), e537, e538, e539, c_0, c_1, c_2, c_3, fun h => let ⟨y547, y548, y549, y550, y551, y552⟩ := c_4 h; ⟨y547, y548, fun hn => (y549 hn).grown0 hN543.grw, y550, y551, y552⟩, fun _ => ⟨rfl, hlB541, hN543.blk, lt_B405_B541, lt_B412_B541, (Nat.le_trans hi536.size (Nat.le_of_eq hN543.eq.symm))⟩, fun h => undone 6 hS hcl rfl h, fun h _ => let ⟨y553, y554, y555, y556, y557, y558⟩ := c_4 h; Nat.ne_of_lt (Nat.lt_of_lt_of_le (Blk.lt (y555 (Bool.eq_false_iff.2 fun h6 => undone 6 hS hcl rfl h6))) (Nat.le_of_eq hN543.eq.symm))⟩
  refine preL_cons (fun S F w559 hS hbef hcl hI => ?_) ?_
  ·
   obtain ⟨B469, B473, hi560, e561, e562, e563, c_0, c_1, c_2, c_3, c_4, c_5, c_6, pr_B469_B473⟩ := hI
   have hb564 := low0 hb418 hi560
   obtain e565 := c_0 (ready_of 0 hbef rfl)
   obtain e566 := c_1 (ready_of 1 hbef rfl)
   obtain ⟨e567, hlB469, kb_B469, lt_B405_B469, lt_B412_B469, hk_B469⟩ := c_4 (ready_of 4 hbef rfl)
   obtain ⟨e568, hlB473, kb_B473, lt_B405_B473, lt_B412_B473, hk_B473⟩ := c_5 (ready_of 5 hbef rfl)
   have ne_B469_B473 := pr_B469_B473 (ready_of 4 hbef rfl) (ready_of 5 hbef rfl)
   refine wpo_storen (vs := [.int .i64 a.th, .int .i64 a.ve, .bool a.rd, .bool a.wr, .bool a.wk]) (cs' := #[.int .i64 a.th, .int .i64 a.ve, .bool a.rd, .bool a.wr, .bool a.wk]) rt_29 e567 e566 rfl (by simp [Value.oneCell']) (kb_B469 hS) (Nat.le_of_ble_eq_true rfl) rfl ?_
   intro w569 hS570
   have hb571 := low1 hb564 hS570.grw (by omega)
   exact wpo_nil ⟨B469, B473, (low1 hi560 hS570.grw (by omega)), e561, e562, e563, c_0, c_1, c_2, c_3, fun h => let ⟨y572, y573, y574, y575, y576, y577⟩ := c_4 h; ⟨y572, y573, fun h => not_open h, y575, y576, y577⟩, fun h => let ⟨y578, y579, y580, y581, y582, y583⟩ := c_5 h; ⟨y578, y579, (y580).grown hS570.grw (some_ne (by omega)), y581, y582, y583⟩, fun _ => hS570.blk, pr_B469_B473⟩
  exact preL_nil
 ·
  intro S F w584 hall hI
  obtain ⟨B469, B473, hi585, e586, e587, e588, c_0, c_1, c_2, c_3, c_4, c_5, c_6, pr_B469_B473⟩ := hI
  have hb589 := low0 hb418 hi585
  obtain e590 := c_0 (hall 0 (by decide))
  obtain e591 := c_1 (hall 1 (by decide))
  obtain e592 := c_2 (hall 2 (by decide))
  obtain e593 := c_3 (hall 3 (by decide))
  obtain ⟨e594, hlB469, kb_B469, lt_B405_B469, lt_B412_B469, hk_B469⟩ := c_4 (hall 4 (by decide))
  obtain ⟨e595, hlB473, kb_B473, lt_B405_B473, lt_B412_B473, hk_B473⟩ := c_5 (hall 5 (by decide))
  obtain ks6_B469 := c_6 (hall 6 (by decide))
  have ne_B469_B473 := pr_B469_B473 (hall 4 (by decide)) (hall 5 (by decide))
  refine wpo_storen (vs := [.int .i64 b.th, .int .i64 b.ve, .bool b.rd, .bool b.wr, .bool b.wk]) (cs' := #[.int .i64 b.th, .int .i64 b.ve, .bool b.rd, .bool b.wr, .bool b.wk]) rt_29 e595 e593 rfl (by simp [Value.oneCell']) kb_B473 (Nat.le_of_ble_eq_true rfl) rfl ?_
  intro w597 hS598
  have hb599 := low1 hb589 hS598.grw (by omega)
  refine wpo_nil ?_
  refine thn_n ?_
  refine wpf_seq_region_mid (fun f' w' => (f' 4 = .bool (((((decide (a.th = b.th)) && (decide (a.ve = b.ve))) && ((!a.rd) || b.rd)) && ((!a.wr) || b.wr)) && (a.wk || (!b.wk)))) ∧ w597 = w') ?_ ?_
  ·
   refine wpo_fieldAddr (o' := 0) fo_29_0 e594 rfl rfl ?_
   have k602 := (ks6_B469.grown hS598.grw (some_ne (by omega)))
   refine wpo_load1 (v := .int .i64 a.th) ot_3 rfl (k602.cell rfl) rfl ?_
   refine wpo_fieldAddr (o' := 0) fo_29_0 e595 rfl rfl ?_
   refine wpo_load1 (v := .int .i64 b.th) ot_3 rfl (hS598.blk.cell rfl) rfl ?_
   refine wpo_eql (q := decide (a.th = b.th)) rfl rfl rfl rfl ?_
   refine wpo_move (v := .bool (decide (a.th = b.th))) rfl rfl ?_
   rcases bcases (decide (a.th = b.th)) with h603 | h603
   ·
    have h604 := of_decide_eq_true h603
    refine wpo_run rfl rfl rfl h603 ?_
    refine wpo_fieldAddr (o' := 1) fo_29_1 e594 rfl rfl ?_
    refine wpo_run rfl rfl rfl h603 ?_
    refine wpo_load1 (v := .int .i64 a.ve) ot_3 rfl (k602.cell rfl) rfl ?_
    refine wpo_run rfl rfl rfl h603 ?_
    refine wpo_fieldAddr (o' := 1) fo_29_1 e595 rfl rfl ?_
    refine wpo_run rfl rfl rfl h603 ?_
    refine wpo_load1 (v := .int .i64 b.ve) ot_3 rfl (hS598.blk.cell rfl) rfl ?_
    refine wpo_run rfl rfl rfl h603 ?_
    refine wpo_eql (q := decide (a.ve = b.ve)) rfl rfl rfl rfl ?_
    refine wpo_pickt (v := .bool (decide (a.ve = b.ve))) rfl h603 rfl rfl ?_
    refine wpo_move (v := .bool (decide (a.ve = b.ve))) rfl rfl ?_
    rcases bcases (decide (a.ve = b.ve)) with h605 | h605
    ·
     have h606 := of_decide_eq_true h605
     refine wpo_run rfl rfl rfl h605 ?_
     refine wpo_fieldAddr (o' := 2) fo_29_2 e594 rfl rfl ?_
     refine wpo_run rfl rfl rfl h605 ?_
     refine wpo_load1 (v := .bool a.rd) ot_4 rfl (k602.cell rfl) rfl ?_
     refine wpo_run rfl rfl rfl h605 ?_
     refine wpo_not (b' := !a.rd) rfl rfl rfl ?_
     refine wpo_run rfl rfl rfl h605 ?_
     refine wpo_move (v := .bool (!a.rd)) rfl rfl ?_
     rcases bcases (!a.rd) with h607 | h607
     ·
      have h608 := nt_t h607
      refine wpo_pass rfl rfl rfl h607 rfl ?_
      refine wpo_pass rfl rfl rfl h607 rfl ?_
      refine wpo_run rfl rfl rfl h605 ?_
      refine wpo_pickt (v := .bool true) rfl h607 rfl rfl ?_
      refine wpo_pickt (v := .bool true) rfl h605 rfl rfl ?_
      refine wpo_move (v := .bool true) rfl rfl ?_
      refine wpo_run rfl rfl rfl rfl ?_
      refine wpo_fieldAddr (o' := 3) fo_29_3 e594 rfl rfl ?_
      refine wpo_run rfl rfl rfl rfl ?_
      refine wpo_load1 (v := .bool a.wr) ot_4 rfl (k602.cell rfl) rfl ?_
      refine wpo_run rfl rfl rfl rfl ?_
      refine wpo_not (b' := !a.wr) rfl rfl rfl ?_
      refine wpo_run rfl rfl rfl rfl ?_
      refine wpo_move (v := .bool (!a.wr)) rfl rfl ?_
      rcases bcases (!a.wr) with h609 | h609
      ·
       have h610 := nt_t h609
       refine wpo_pass rfl rfl rfl h609 rfl ?_
       refine wpo_pass rfl rfl rfl h609 rfl ?_
       refine wpo_run rfl rfl rfl rfl ?_
       refine wpo_pickt (v := .bool true) rfl h609 rfl rfl ?_
       refine wpo_pickt (v := .bool true) rfl rfl rfl rfl ?_
       refine wpo_move (v := .bool true) rfl rfl ?_
       refine wpo_run rfl rfl rfl rfl ?_
       refine wpo_fieldAddr (o' := 4) fo_29_4 e594 rfl rfl ?_
       refine wpo_run rfl rfl rfl rfl ?_
       refine wpo_load1 (v := .bool a.wk) ot_4 rfl (k602.cell rfl) rfl ?_
       refine wpo_run rfl rfl rfl rfl ?_
       refine wpo_move (v := .bool a.wk) rfl rfl ?_
       rcases bcases (a.wk) with h611 | h611
       ·
        iterate 3 refine wpo_pass rfl rfl rfl h611 rfl ?_
        refine wpo_run rfl rfl rfl rfl ?_
        refine wpo_pickt (v := .bool true) rfl h611 rfl rfl ?_
        refine wpo_pickt (v := .bool true) rfl rfl rfl rfl ?_
        refine wpo_assign (v := .bool true) rfl rfl ?_
        exact wpo_nil ⟨(congrArg Value.bool (by first | (simp only [h603, h605, h607, h608, h609, h610, h611, b0, b1, b2, b3, b4, b5, b6, b7, b8, b9]; done) | simp [h603, h605, h607, h608, h609, h610, h611])), rfl⟩
       ·
        refine wpo_run rfl rfl rfl h611 ?_
        refine wpo_fieldAddr (o' := 4) fo_29_4 e595 rfl rfl ?_
        refine wpo_run rfl rfl rfl h611 ?_
        refine wpo_load1 (v := .bool b.wk) ot_4 rfl (hS598.blk.cell rfl) rfl ?_
        refine wpo_run rfl rfl rfl h611 ?_
        refine wpo_not (b' := !b.wk) rfl rfl rfl ?_
        refine wpo_run rfl rfl rfl rfl ?_
        refine wpo_pickf (v := .bool (!b.wk)) rfl h611 rfl rfl ?_
        refine wpo_pickt (v := .bool (!b.wk)) rfl rfl rfl rfl ?_
        refine wpo_assign (v := .bool (!b.wk)) rfl rfl ?_
        exact wpo_nil ⟨(congrArg Value.bool (by first | (simp only [h603, h605, h607, h608, h609, h610, h611, b0, b1, b2, b3, b4, b5, b6, b7, b8, b9]; done) | simp [h603, h605, h607, h608, h609, h610, h611])), rfl⟩
      ·
       have h612 := nt_f h609
       refine wpo_run rfl rfl rfl h609 ?_
       refine wpo_fieldAddr (o' := 3) fo_29_3 e595 rfl rfl ?_
       refine wpo_run rfl rfl rfl h609 ?_
       refine wpo_load1 (v := .bool b.wr) ot_4 rfl (hS598.blk.cell rfl) rfl ?_
       refine wpo_run rfl rfl rfl rfl ?_
       refine wpo_pickf (v := .bool b.wr) rfl h609 rfl rfl ?_
       refine wpo_pickt (v := .bool b.wr) rfl rfl rfl rfl ?_
       refine wpo_move (v := .bool b.wr) rfl rfl ?_
       rcases bcases (b.wr) with h613 | h613
       ·
        refine wpo_run rfl rfl rfl h613 ?_
        refine wpo_fieldAddr (o' := 4) fo_29_4 e594 rfl rfl ?_
        refine wpo_run rfl rfl rfl h613 ?_
        refine wpo_load1 (v := .bool a.wk) ot_4 rfl (k602.cell rfl) rfl ?_
        refine wpo_run rfl rfl rfl h613 ?_
        refine wpo_move (v := .bool a.wk) rfl rfl ?_
        rcases bcases (a.wk) with h614 | h614
        ·
         iterate 3 refine wpo_pass rfl rfl rfl h614 rfl ?_
         refine wpo_run rfl rfl rfl h613 ?_
         refine wpo_pickt (v := .bool true) rfl h614 rfl rfl ?_
         refine wpo_pickt (v := .bool true) rfl h613 rfl rfl ?_
         refine wpo_assign (v := .bool true) rfl rfl ?_
         exact wpo_nil ⟨(congrArg Value.bool (by first | (simp only [h603, h605, h607, h608, h609, h612, h613, h614, b0, b1, b2, b3, b4, b5, b6, b7, b8, b9]; done) | simp [h603, h605, h607, h608, h609, h612, h613, h614])), rfl⟩
        ·
         refine wpo_run rfl rfl rfl h614 ?_
         refine wpo_fieldAddr (o' := 4) fo_29_4 e595 rfl rfl ?_
         refine wpo_run rfl rfl rfl h614 ?_
         refine wpo_load1 (v := .bool b.wk) ot_4 rfl (hS598.blk.cell rfl) rfl ?_
         refine wpo_run rfl rfl rfl h614 ?_
         refine wpo_not (b' := !b.wk) rfl rfl rfl ?_
         refine wpo_run rfl rfl rfl h613 ?_
         refine wpo_pickf (v := .bool (!b.wk)) rfl h614 rfl rfl ?_
         refine wpo_pickt (v := .bool (!b.wk)) rfl h613 rfl rfl ?_
         refine wpo_assign (v := .bool (!b.wk)) rfl rfl ?_
         exact wpo_nil ⟨(congrArg Value.bool (by first | (simp only [h603, h605, h607, h608, h609, h612, h613, h614, b0, b1, b2, b3, b4, b5, b6, b7, b8, b9]; done) | simp [h603, h605, h607, h608, h609, h612, h613, h614])), rfl⟩
       ·
        iterate 3 refine wpo_pass rfl rfl rfl h613 rfl ?_
        iterate 3 refine wpo_passu rfl rfl rfl rfl ?_
        refine wpo_pass rfl rfl rfl h613 rfl ?_
        refine wpo_pickf (v := .bool false) rfl h613 rfl rfl ?_
        refine wpo_assign (v := .bool false) rfl rfl ?_
        exact wpo_nil ⟨(congrArg Value.bool (by first | (simp only [h603, h605, h607, h608, h609, h612, h613, b0, b1, b2, b3, b4, b5, b6, b7, b8, b9]; done) | simp [h603, h605, h607, h608, h609, h612, h613])), rfl⟩
     ·
      have h615 := nt_f h607
      refine wpo_run rfl rfl rfl h607 ?_
      refine wpo_fieldAddr (o' := 2) fo_29_2 e595 rfl rfl ?_
      refine wpo_run rfl rfl rfl h607 ?_
      refine wpo_load1 (v := .bool b.rd) ot_4 rfl (hS598.blk.cell rfl) rfl ?_
      refine wpo_run rfl rfl rfl h605 ?_
      refine wpo_pickf (v := .bool b.rd) rfl h607 rfl rfl ?_
      refine wpo_pickt (v := .bool b.rd) rfl h605 rfl rfl ?_
      refine wpo_move (v := .bool b.rd) rfl rfl ?_
      rcases bcases (b.rd) with h616 | h616
      ·
       refine wpo_run rfl rfl rfl h616 ?_
       refine wpo_fieldAddr (o' := 3) fo_29_3 e594 rfl rfl ?_
       refine wpo_run rfl rfl rfl h616 ?_
       refine wpo_load1 (v := .bool a.wr) ot_4 rfl (k602.cell rfl) rfl ?_
       refine wpo_run rfl rfl rfl h616 ?_
       refine wpo_not (b' := !a.wr) rfl rfl rfl ?_
       refine wpo_run rfl rfl rfl h616 ?_
       refine wpo_move (v := .bool (!a.wr)) rfl rfl ?_
       rcases bcases (!a.wr) with h617 | h617
       ·
        have h618 := nt_t h617
        refine wpo_pass rfl rfl rfl h617 rfl ?_
        refine wpo_pass rfl rfl rfl h617 rfl ?_
        refine wpo_run rfl rfl rfl h616 ?_
        refine wpo_pickt (v := .bool true) rfl h617 rfl rfl ?_
        refine wpo_pickt (v := .bool true) rfl h616 rfl rfl ?_
        refine wpo_move (v := .bool true) rfl rfl ?_
        refine wpo_run rfl rfl rfl rfl ?_
        refine wpo_fieldAddr (o' := 4) fo_29_4 e594 rfl rfl ?_
        refine wpo_run rfl rfl rfl rfl ?_
        refine wpo_load1 (v := .bool a.wk) ot_4 rfl (k602.cell rfl) rfl ?_
        refine wpo_run rfl rfl rfl rfl ?_
        refine wpo_move (v := .bool a.wk) rfl rfl ?_
        rcases bcases (a.wk) with h619 | h619
        ·
         iterate 3 refine wpo_pass rfl rfl rfl h619 rfl ?_
         refine wpo_run rfl rfl rfl rfl ?_
         refine wpo_pickt (v := .bool true) rfl h619 rfl rfl ?_
         refine wpo_pickt (v := .bool true) rfl rfl rfl rfl ?_
         refine wpo_assign (v := .bool true) rfl rfl ?_
         exact wpo_nil ⟨(congrArg Value.bool (by first | (simp only [h603, h605, h607, h615, h616, h617, h618, h619, b0, b1, b2, b3, b4, b5, b6, b7, b8, b9]; done) | simp [h603, h605, h607, h615, h616, h617, h618, h619])), rfl⟩
        ·
         refine wpo_run rfl rfl rfl h619 ?_
         refine wpo_fieldAddr (o' := 4) fo_29_4 e595 rfl rfl ?_
         refine wpo_run rfl rfl rfl h619 ?_
         refine wpo_load1 (v := .bool b.wk) ot_4 rfl (hS598.blk.cell rfl) rfl ?_
         refine wpo_run rfl rfl rfl h619 ?_
         refine wpo_not (b' := !b.wk) rfl rfl rfl ?_
         refine wpo_run rfl rfl rfl rfl ?_
         refine wpo_pickf (v := .bool (!b.wk)) rfl h619 rfl rfl ?_
         refine wpo_pickt (v := .bool (!b.wk)) rfl rfl rfl rfl ?_
         refine wpo_assign (v := .bool (!b.wk)) rfl rfl ?_
         exact wpo_nil ⟨(congrArg Value.bool (by first | (simp only [h603, h605, h607, h615, h616, h617, h618, h619, b0, b1, b2, b3, b4, b5, b6, b7, b8, b9]; done) | simp [h603, h605, h607, h615, h616, h617, h618, h619])), rfl⟩
       ·
        have h620 := nt_f h617
        refine wpo_run rfl rfl rfl h617 ?_
        refine wpo_fieldAddr (o' := 3) fo_29_3 e595 rfl rfl ?_
        refine wpo_run rfl rfl rfl h617 ?_
        refine wpo_load1 (v := .bool b.wr) ot_4 rfl (hS598.blk.cell rfl) rfl ?_
        refine wpo_run rfl rfl rfl h616 ?_
        refine wpo_pickf (v := .bool b.wr) rfl h617 rfl rfl ?_
        refine wpo_pickt (v := .bool b.wr) rfl h616 rfl rfl ?_
        refine wpo_move (v := .bool b.wr) rfl rfl ?_
        rcases bcases (b.wr) with h621 | h621
        ·
         refine wpo_run rfl rfl rfl h621 ?_
         refine wpo_fieldAddr (o' := 4) fo_29_4 e594 rfl rfl ?_
         refine wpo_run rfl rfl rfl h621 ?_
         refine wpo_load1 (v := .bool a.wk) ot_4 rfl (k602.cell rfl) rfl ?_
         refine wpo_run rfl rfl rfl h621 ?_
         refine wpo_move (v := .bool a.wk) rfl rfl ?_
         rcases bcases (a.wk) with h622 | h622
         ·
          iterate 3 refine wpo_pass rfl rfl rfl h622 rfl ?_
          refine wpo_run rfl rfl rfl h621 ?_
          refine wpo_pickt (v := .bool true) rfl h622 rfl rfl ?_
          refine wpo_pickt (v := .bool true) rfl h621 rfl rfl ?_
          refine wpo_assign (v := .bool true) rfl rfl ?_
          exact wpo_nil ⟨(congrArg Value.bool (by first | (simp only [h603, h605, h607, h615, h616, h617, h620, h621, h622, b0, b1, b2, b3, b4, b5, b6, b7, b8, b9]; done) | simp [h603, h605, h607, h615, h616, h617, h620, h621, h622])), rfl⟩
         ·
          refine wpo_run rfl rfl rfl h622 ?_
          refine wpo_fieldAddr (o' := 4) fo_29_4 e595 rfl rfl ?_
          refine wpo_run rfl rfl rfl h622 ?_
          refine wpo_load1 (v := .bool b.wk) ot_4 rfl (hS598.blk.cell rfl) rfl ?_
          refine wpo_run rfl rfl rfl h622 ?_
          refine wpo_not (b' := !b.wk) rfl rfl rfl ?_
          refine wpo_run rfl rfl rfl h621 ?_
          refine wpo_pickf (v := .bool (!b.wk)) rfl h622 rfl rfl ?_
          refine wpo_pickt (v := .bool (!b.wk)) rfl h621 rfl rfl ?_
          refine wpo_assign (v := .bool (!b.wk)) rfl rfl ?_
          exact wpo_nil ⟨(congrArg Value.bool (by first | (simp only [h603, h605, h607, h615, h616, h617, h620, h621, h622, b0, b1, b2, b3, b4, b5, b6, b7, b8, b9]; done) | simp [h603, h605, h607, h615, h616, h617, h620, h621, h622])), rfl⟩
        ·
         iterate 3 refine wpo_pass rfl rfl rfl h621 rfl ?_
         iterate 3 refine wpo_passu rfl rfl rfl rfl ?_
         refine wpo_pass rfl rfl rfl h621 rfl ?_
         refine wpo_pickf (v := .bool false) rfl h621 rfl rfl ?_
         refine wpo_assign (v := .bool false) rfl rfl ?_
         exact wpo_nil ⟨(congrArg Value.bool (by first | (simp only [h603, h605, h607, h615, h616, h617, h620, h621, b0, b1, b2, b3, b4, b5, b6, b7, b8, b9]; done) | simp [h603, h605, h607, h615, h616, h617, h620, h621])), rfl⟩
      ·
       iterate 4 refine wpo_pass rfl rfl rfl h616 rfl ?_
       refine wpo_passu rfl rfl rfl rfl ?_
       refine wpo_passu rfl rfl rfl rfl ?_
       refine wpo_pass rfl rfl rfl h616 rfl ?_
       refine wpo_pickf (v := .bool false) rfl h616 rfl rfl ?_
       refine wpo_move (v := .bool false) rfl rfl ?_
       iterate 3 refine wpo_pass rfl rfl rfl rfl rfl ?_
       iterate 3 refine wpo_passu rfl rfl rfl rfl ?_
       refine wpo_pass rfl rfl rfl rfl rfl ?_
       refine wpo_pickf (v := .bool false) rfl rfl rfl rfl ?_
       refine wpo_assign (v := .bool false) rfl rfl ?_
       exact wpo_nil ⟨(congrArg Value.bool (by first | (simp only [h603, h605, h607, h615, h616, b0, b1, b2, b3, b4, b5, b6, b7, b8, b9]; done) | simp [h603, h605, h607, h615, h616])), rfl⟩
    ·
     have h623 := of_decide_eq_false h605
     iterate 4 refine wpo_pass rfl rfl rfl h605 rfl ?_
     refine wpo_passu rfl rfl rfl rfl ?_
     refine wpo_passu rfl rfl rfl rfl ?_
     refine wpo_pass rfl rfl rfl h605 rfl ?_
     refine wpo_pickf (v := .bool false) rfl h605 rfl rfl ?_
     refine wpo_move (v := .bool false) rfl rfl ?_
     iterate 4 refine wpo_pass rfl rfl rfl rfl rfl ?_
     refine wpo_passu rfl rfl rfl rfl ?_
     refine wpo_passu rfl rfl rfl rfl ?_
     refine wpo_pass rfl rfl rfl rfl rfl ?_
     refine wpo_pickf (v := .bool false) rfl rfl rfl rfl ?_
     refine wpo_move (v := .bool false) rfl rfl ?_
     iterate 3 refine wpo_pass rfl rfl rfl rfl rfl ?_
     iterate 3 refine wpo_passu rfl rfl rfl rfl ?_
     refine wpo_pass rfl rfl rfl rfl rfl ?_
     refine wpo_pickf (v := .bool false) rfl rfl rfl rfl ?_
     refine wpo_assign (v := .bool false) rfl rfl ?_
     exact wpo_nil ⟨(congrArg Value.bool (by first | (simp only [h603, h605, b0, b1, b2, b3, b4, b5, b6, b7, b8, b9]; done) | simp [h603, h605])), rfl⟩
   ·
    have h624 := of_decide_eq_false h603
    iterate 5 refine wpo_pass rfl rfl rfl h603 rfl ?_
    refine wpo_pickf (v := .bool false) rfl h603 rfl rfl ?_
    refine wpo_move (v := .bool false) rfl rfl ?_
    iterate 4 refine wpo_pass rfl rfl rfl rfl rfl ?_
    refine wpo_passu rfl rfl rfl rfl ?_
    refine wpo_passu rfl rfl rfl rfl ?_
    refine wpo_pass rfl rfl rfl rfl rfl ?_
    refine wpo_pickf (v := .bool false) rfl rfl rfl rfl ?_
    refine wpo_move (v := .bool false) rfl rfl ?_
    iterate 4 refine wpo_pass rfl rfl rfl rfl rfl ?_
    refine wpo_passu rfl rfl rfl rfl ?_
    refine wpo_passu rfl rfl rfl rfl ?_
    refine wpo_pass rfl rfl rfl rfl rfl ?_
    refine wpo_pickf (v := .bool false) rfl rfl rfl rfl ?_
    refine wpo_move (v := .bool false) rfl rfl ?_
    iterate 3 refine wpo_pass rfl rfl rfl rfl rfl ?_
    iterate 3 refine wpo_passu rfl rfl rfl rfl ?_
    refine wpo_pass rfl rfl rfl rfl rfl ?_
    refine wpo_pickf (v := .bool false) rfl rfl rfl rfl ?_
    refine wpo_assign (v := .bool false) rfl rfl ?_
    exact wpo_nil ⟨(congrArg Value.bool (by first | (simp only [h603, b0, b1, b2, b3, b4, b5, b6, b7, b8, b9]; done) | simp [h603])), rfl⟩
  ·
   rintro f625 w626 ⟨e627, rfl⟩
   refine wpf_ret ?_
   refine blk_r ?_
   refine thn_r ?_
   refine ⟨.bool (((((decide (a.th = b.th)) && (decide (a.ve = b.ve))) && ((!a.rd) || b.rd)) && ((!a.wr) || b.wr)) && (a.wk || (!b.wk))), res1 rfl e627, ?_, hb599⟩
   rfl

theorem RightIn_c (a b : Rt) (w : World) : CallsR Try.prog 21 #[.agg #[.int .i64 a.th, .int .i64 a.ve, .bool a.rd, .bool a.wr, .bool a.wk], .agg #[.int .i64 b.th, .int .i64 b.ve, .bool b.rd, .bool b.wr, .bool b.wk]] w (fun v w' => v = .bool (rightIn a b) ∧ w.grownBy w' none) := by
 refine calls_of_wpf (n := 18) Try.func21 rfl Try.ntmps21 rfl ?_
 have hb0 := World.grownBy.refl w none
 rcases bcases (decide (a.th = 0)) with h628 | h628
 ·
  have h629 := of_decide_eq_true h628
  rcases bcases (decide (b.th = 0)) with h630 | h630
  ·
   have h631 := of_decide_eq_true h630
   refine wpf_seq_region ?_
   refine wpo_box (v := .agg #[.int .i64 a.th, .int .i64 a.ve, .bool a.rd, .bool a.wr, .bool a.wk]) (cs := #[.int .i64 a.th, .int .i64 a.ve, .bool a.rd, .bool a.wr, .bool a.wk]) rfl rfl rfl ?_
   intro B632 w633 hN634
   have hlB632 := hN_ge hN634 hb0
   have hb635 := low0 hb0 hN634.grw
   refine wpo_box (v := .agg #[.int .i64 b.th, .int .i64 b.ve, .bool b.rd, .bool b.wr, .bool b.wk]) (cs := #[.int .i64 b.th, .int .i64 b.ve, .bool b.rd, .bool b.wr, .bool b.wk]) rfl rfl rfl ?_
   intro B636 w637 hN638
   have hlB636 := hN_ge hN638 hb635
   have lt_B632_B636 := hN_gtl hN638 (hN634.blk).lt
   have hb639 := low0 hb635 hN638.grw
   refine wpo_assign (v := .bool false) rfl rfl ?_
   refine wpo_nil ?_
   refine wpf_seq_mid (fun f' w' => (f' 4 = .bool (rightOk a && rightOk b)) ∧ w637.grownBy w' none) ?_ ?_
   ·
    rcases bcases (rightOk a) with h667 | h667
    ·
     rcases bcases (rightOk b) with h676 | h676
     ·
      refine wpf_draw (m := 10) (vals := [(5, .agg #[.int .i64 a.th, .int .i64 a.ve, .bool a.rd, .bool a.wr, .bool a.wk]), (6, .bool (rightOk a)), (7, .bool (rightOk a)), (8, .agg #[.int .i64 b.th, .int .i64 b.ve, .bool b.rd, .bool b.wr, .bool b.wk]), (9, .bool (rightOk b)), (10, .bool (rightOk b)), (11, .bool (rightOk b)), (12, .agg #[.int .i64 a.th, .int .i64 a.ve, .bool a.rd, .bool a.wr, .bool a.wk]), (13, .iface 123 (.agg #[])), (14, .agg #[.int .i64 b.th, .int .i64 b.ve, .bool b.rd, .bool b.wr, .bool b.wk])]) (fun w' => w637.grownBy w' none) mixed_ (by kernel_rfl) (grown_drew _) ?_ ?_
      ·
       refine yll_cons rfl (fun w728 hi729 => ?_) ?_
       ·
        have hb730 := low0 hb639 hi729
        have k731 := ((hN634.blk.grown0 hN638.grw).grown0 hi729)
        refine wpo_loadn (vs := [.int .i64 a.th, .int .i64 a.ve, .bool a.rd, .bool a.wr, .bool a.wk]) rt_29 rfl rfl (k731.rangeL 0 5 rfl) rfl ?_
        exact wpo_nil ⟨rfl, hi729⟩
       refine yll_cons rfl (fun w732 hi733 => ?_) ?_
       ·
        have hb734 := low0 hb639 hi733
        refine wpo_call (vs := [.agg #[.int .i64 a.th, .int .i64 a.ve, .bool a.rd, .bool a.wr, .bool a.wk]]) gf_20 (args_cons rfl args_nil) rfl (RightOk_c a _) ?_
        rintro _ w735 ⟨rfl, hg736⟩
        have hb737 := low0 hb734 hg736
        exact wpo_nil ⟨rfl, (grown_trans hi733 hg736)⟩
       refine yll_cons rfl (fun w738 hi739 => ?_) ?_
       ·
        have hb740 := low0 hb639 hi739
        refine wpo_move (v := .bool (rightOk a)) rfl rfl ?_
        exact wpo_nil ⟨rfl, hi739⟩
       refine yll_cons rfl (fun w741 hi742 => ?_) ?_
       ·
        have hb743 := low0 hb639 hi742
        refine wpo_run rfl rfl rfl h667 ?_
        have k744 := (hN638.blk.grown0 hi742)
        refine wpo_loadn (vs := [.int .i64 b.th, .int .i64 b.ve, .bool b.rd, .bool b.wr, .bool b.wk]) rt_29 rfl rfl (k744.rangeL 0 5 rfl) rfl ?_
        exact wpo_nil ⟨rfl, hi742⟩
       refine yll_cons rfl (fun w745 hi746 => ?_) ?_
       ·
        have hb747 := low0 hb639 hi746
        refine wpo_run rfl rfl rfl h667 ?_
        refine wpo_call (vs := [.agg #[.int .i64 b.th, .int .i64 b.ve, .bool b.rd, .bool b.wr, .bool b.wk]]) gf_20 (args_cons rfl args_nil) rfl (RightOk_c b _) ?_
        rintro _ w748 ⟨rfl, hg749⟩
        have hb750 := low0 hb747 hg749
        exact wpo_nil ⟨rfl, (grown_trans hi746 hg749)⟩
       refine yll_cons rfl (fun w751 hi752 => ?_) ?_
       ·
        have hb753 := low0 hb639 hi752
        refine wpo_pickt (v := .bool (rightOk b)) rfl h667 rfl rfl ?_
        exact wpo_nil ⟨rfl, hi752⟩
       refine yll_cons rfl (fun w754 hi755 => ?_) ?_
       ·
        have hb756 := low0 hb639 hi755
        refine wpo_move (v := .bool (rightOk b)) rfl rfl ?_
        exact wpo_nil ⟨rfl, hi755⟩
       refine yll_cons rfl (fun w757 hi758 => ?_) ?_
       ·
        have hb759 := low0 hb639 hi758
        refine wpo_run rfl rfl rfl h676 ?_
        have k760 := ((hN634.blk.grown0 hN638.grw).grown0 hi758)
        refine wpo_loadn (vs := [.int .i64 a.th, .int .i64 a.ve, .bool a.rd, .bool a.wr, .bool a.wk]) rt_29 rfl rfl (k760.rangeL 0 5 rfl) rfl ?_
        exact wpo_nil ⟨rfl, hi758⟩
       refine yll_cons rfl (fun w761 hi762 => ?_) ?_
       ·
        have hb763 := low0 hb639 hi762
        refine wpo_run rfl rfl rfl h676 ?_
        refine wpo_call (vs := [.agg #[.int .i64 a.th, .int .i64 a.ve, .bool a.rd, .bool a.wr, .bool a.wk]]) gf_64 (args_cons rfl args_nil) rfl (capOf_t a h628 _) ?_
        rintro _ w764 ⟨rfl, hg765⟩
        have hb766 := low0 hb763 hg765
        exact wpo_nil ⟨rfl, (grown_trans hi762 hg765)⟩
       refine yll_cons rfl (fun w767 hi768 => ?_) ?_
       ·
        have hb769 := low0 hb639 hi768
        refine wpo_run rfl rfl rfl h676 ?_
        have k770 := (hN638.blk.grown0 hi768)
        refine wpo_loadn (vs := [.int .i64 b.th, .int .i64 b.ve, .bool b.rd, .bool b.wr, .bool b.wk]) rt_29 rfl rfl (k770.rangeL 0 5 rfl) rfl ?_
        exact wpo_nil ⟨rfl, hi768⟩
       exact yll_nil
      ·
       intro w771 hi772
       have hb773 := low0 hb639 hi772
       refine wpo_run rfl rfl rfl h676 ?_
       refine wpo_call (vs := [.agg #[.int .i64 b.th, .int .i64 b.ve, .bool b.rd, .bool b.wr, .bool b.wk]]) gf_64 (args_cons rfl args_nil) rfl (capOf_t b h630 _) ?_
       rintro _ w774 ⟨rfl, hg775⟩
       have hb776 := low0 hb773 hg775
       refine wpo_run rfl rfl rfl h676 ?_
       refine wpo_call (vs := [.iface 123 (.agg #[]), .iface 123 (.agg #[])]) gf_63 (args_cons rfl (args_cons rfl args_nil)) rfl (capIn_n _ _) ?_
       rintro _ w777 ⟨rfl, hg778⟩
       have hb779 := low0 hb776 hg778
       refine wpo_pickt (v := .bool true) rfl h676 rfl rfl ?_
       refine wpo_assign (v := .bool true) rfl rfl ?_
       exact wpo_nil (thn_n ⟨(congrArg Value.bool (by first | (simp only [h628, h630, h667, h676, b0, b1, b2, b3, b4, b5, b6, b7, b8, b9]; done) | simp [h628, h630, h667, h676])), (grown_trans (grown_trans hi772 hg775) hg778)⟩)
     ·
      refine wpf_draw (m := 10) (vals := [(5, .agg #[.int .i64 a.th, .int .i64 a.ve, .bool a.rd, .bool a.wr, .bool a.wk]), (6, .bool (rightOk a)), (7, .bool (rightOk a)), (8, .agg #[.int .i64 b.th, .int .i64 b.ve, .bool b.rd, .bool b.wr, .bool b.wk]), (9, .bool (rightOk b)), (10, .bool (rightOk b)), (11, .bool (rightOk b)), (12, undef), (13, undef), (14, undef)]) (fun w' => w637.grownBy w' none) mixed_ (by kernel_rfl) (grown_drew _) ?_ ?_
      ·
       refine yll_cons rfl (fun w804 hi805 => ?_) ?_
       ·
        have hb806 := low0 hb639 hi805
        have k807 := ((hN634.blk.grown0 hN638.grw).grown0 hi805)
        refine wpo_loadn (vs := [.int .i64 a.th, .int .i64 a.ve, .bool a.rd, .bool a.wr, .bool a.wk]) rt_29 rfl rfl (k807.rangeL 0 5 rfl) rfl ?_
        exact wpo_nil ⟨rfl, hi805⟩
       refine yll_cons rfl (fun w808 hi809 => ?_) ?_
       ·
        have hb810 := low0 hb639 hi809
        refine wpo_call (vs := [.agg #[.int .i64 a.th, .int .i64 a.ve, .bool a.rd, .bool a.wr, .bool a.wk]]) gf_20 (args_cons rfl args_nil) rfl (RightOk_c a _) ?_
        rintro _ w811 ⟨rfl, hg812⟩
        have hb813 := low0 hb810 hg812
        exact wpo_nil ⟨rfl, (grown_trans hi809 hg812)⟩
       refine yll_cons rfl (fun w814 hi815 => ?_) ?_
       ·
        have hb816 := low0 hb639 hi815
        refine wpo_move (v := .bool (rightOk a)) rfl rfl ?_
        exact wpo_nil ⟨rfl, hi815⟩
       refine yll_cons rfl (fun w817 hi818 => ?_) ?_
       ·
        have hb819 := low0 hb639 hi818
        refine wpo_run rfl rfl rfl h667 ?_
        have k820 := (hN638.blk.grown0 hi818)
        refine wpo_loadn (vs := [.int .i64 b.th, .int .i64 b.ve, .bool b.rd, .bool b.wr, .bool b.wk]) rt_29 rfl rfl (k820.rangeL 0 5 rfl) rfl ?_
        exact wpo_nil ⟨rfl, hi818⟩
       refine yll_cons rfl (fun w821 hi822 => ?_) ?_
       ·
        have hb823 := low0 hb639 hi822
        refine wpo_run rfl rfl rfl h667 ?_
        refine wpo_call (vs := [.agg #[.int .i64 b.th, .int .i64 b.ve, .bool b.rd, .bool b.wr, .bool b.wk]]) gf_20 (args_cons rfl args_nil) rfl (RightOk_c b _) ?_
        rintro _ w824 ⟨rfl, hg825⟩
        have hb826 := low0 hb823 hg825
        exact wpo_nil ⟨rfl, (grown_trans hi822 hg825)⟩
       refine yll_cons rfl (fun w827 hi828 => ?_) ?_
       ·
        have hb829 := low0 hb639 hi828
        refine wpo_pickt (v := .bool (rightOk b)) rfl h667 rfl rfl ?_
        exact wpo_nil ⟨rfl, hi828⟩
       refine yll_cons rfl (fun w830 hi831 => ?_) ?_
       ·
        have hb832 := low0 hb639 hi831
        refine wpo_move (v := .bool (rightOk b)) rfl rfl ?_
        exact wpo_nil ⟨rfl, hi831⟩
       refine yll_cons rfl (fun w833 hi834 => ?_) ?_
       ·
        have hb835 := low0 hb639 hi834
        refine wpo_pass rfl rfl rfl h676 rfl ?_
        exact wpo_nil ⟨rfl, hi834⟩
       refine yll_cons rfl (fun w836 hi837 => ?_) ?_
       ·
        have hb838 := low0 hb639 hi837
        refine wpo_pass rfl rfl rfl h676 rfl ?_
        exact wpo_nil ⟨rfl, hi837⟩
       refine yll_cons rfl (fun w839 hi840 => ?_) ?_
       ·
        have hb841 := low0 hb639 hi840
        refine wpo_pass rfl rfl rfl h676 rfl ?_
        exact wpo_nil ⟨rfl, hi840⟩
       exact yll_nil
      ·
       intro w842 hi843
       have hb844 := low0 hb639 hi843
       refine wpo_pass rfl rfl rfl h676 rfl ?_
       refine wpo_pass rfl rfl rfl h676 rfl ?_
       refine wpo_pickf (v := .bool false) rfl h676 rfl rfl ?_
       refine wpo_assign (v := .bool false) rfl rfl ?_
       exact wpo_nil (thn_n ⟨(congrArg Value.bool (by first | (simp only [h628, h630, h667, h676, b0, b1, b2, b3, b4, b5, b6, b7, b8, b9]; done) | simp [h628, h630, h667, h676])), hi843⟩)
    ·
     refine wpf_draw (m := 10) (vals := [(5, .agg #[.int .i64 a.th, .int .i64 a.ve, .bool a.rd, .bool a.wr, .bool a.wk]), (6, .bool (rightOk a)), (7, .bool (rightOk a)), (8, undef), (9, undef), (10, .bool false), (11, .bool false), (12, undef), (13, undef), (14, undef)]) (fun w' => w637.grownBy w' none) mixed_ (by kernel_rfl) (grown_drew _) ?_ ?_
     ·
      refine yll_cons rfl (fun w857 hi858 => ?_) ?_
      ·
       have hb859 := low0 hb639 hi858
       have k860 := ((hN634.blk.grown0 hN638.grw).grown0 hi858)
       refine wpo_loadn (vs := [.int .i64 a.th, .int .i64 a.ve, .bool a.rd, .bool a.wr, .bool a.wk]) rt_29 rfl rfl (k860.rangeL 0 5 rfl) rfl ?_
       exact wpo_nil ⟨rfl, hi858⟩
      refine yll_cons rfl (fun w861 hi862 => ?_) ?_
      ·
       have hb863 := low0 hb639 hi862
       refine wpo_call (vs := [.agg #[.int .i64 a.th, .int .i64 a.ve, .bool a.rd, .bool a.wr, .bool a.wk]]) gf_20 (args_cons rfl args_nil) rfl (RightOk_c a _) ?_
       rintro _ w864 ⟨rfl, hg865⟩
       have hb866 := low0 hb863 hg865
       exact wpo_nil ⟨rfl, (grown_trans hi862 hg865)⟩
      refine yll_cons rfl (fun w867 hi868 => ?_) ?_
      ·
       have hb869 := low0 hb639 hi868
       refine wpo_move (v := .bool (rightOk a)) rfl rfl ?_
       exact wpo_nil ⟨rfl, hi868⟩
      refine yll_cons rfl (fun w870 hi871 => ?_) ?_
      ·
       have hb872 := low0 hb639 hi871
       refine wpo_pass rfl rfl rfl h667 rfl ?_
       exact wpo_nil ⟨rfl, hi871⟩
      refine yll_cons rfl (fun w873 hi874 => ?_) ?_
      ·
       have hb875 := low0 hb639 hi874
       refine wpo_pass rfl rfl rfl h667 rfl ?_
       exact wpo_nil ⟨rfl, hi874⟩
      refine yll_cons rfl (fun w876 hi877 => ?_) ?_
      ·
       have hb878 := low0 hb639 hi877
       refine wpo_pickf (v := .bool false) rfl h667 rfl rfl ?_
       exact wpo_nil ⟨rfl, hi877⟩
      refine yll_cons rfl (fun w879 hi880 => ?_) ?_
      ·
       have hb881 := low0 hb639 hi880
       refine wpo_move (v := .bool false) rfl rfl ?_
       exact wpo_nil ⟨rfl, hi880⟩
      refine yll_cons rfl (fun w882 hi883 => ?_) ?_
      ·
       have hb884 := low0 hb639 hi883
       refine wpo_pass rfl rfl rfl rfl rfl ?_
       exact wpo_nil ⟨rfl, hi883⟩
      refine yll_cons rfl (fun w885 hi886 => ?_) ?_
      ·
       have hb887 := low0 hb639 hi886
       refine wpo_pass rfl rfl rfl rfl rfl ?_
       exact wpo_nil ⟨rfl, hi886⟩
      refine yll_cons rfl (fun w888 hi889 => ?_) ?_
      ·
       have hb890 := low0 hb639 hi889
       refine wpo_pass rfl rfl rfl rfl rfl ?_
       exact wpo_nil ⟨rfl, hi889⟩
      exact yll_nil
     ·
      intro w891 hi892
      have hb893 := low0 hb639 hi892
      refine wpo_pass rfl rfl rfl rfl rfl ?_
      refine wpo_pass rfl rfl rfl rfl rfl ?_
      refine wpo_pickf (v := .bool false) rfl rfl rfl rfl ?_
      refine wpo_assign (v := .bool false) rfl rfl ?_
      exact wpo_nil (thn_n ⟨(congrArg Value.bool (by first | (simp only [h628, h630, h667, b0, b1, b2, b3, b4, b5, b6, b7, b8, b9]; done) | simp [h628, h630, h667])), hi892⟩)
   ·
    rintro f894 w895 ⟨e896, hg897⟩
    have hb898 := low0 hb639 hg897
    refine wpf_ret ?_
    refine ⟨.bool (rightOk a && rightOk b), res1 rfl e896, ?_, hb898⟩
    simp [rightIn, l2In_z h628]
  ·
   have h899 := of_decide_eq_false h630
   refine wpf_seq_region ?_
   refine wpo_box (v := .agg #[.int .i64 a.th, .int .i64 a.ve, .bool a.rd, .bool a.wr, .bool a.wk]) (cs := #[.int .i64 a.th, .int .i64 a.ve, .bool a.rd, .bool a.wr, .bool a.wk]) rfl rfl rfl ?_
   intro B900 w901 hN902
   have hlB900 := hN_ge hN902 hb0
   have hb903 := low0 hb0 hN902.grw
   refine wpo_box (v := .agg #[.int .i64 b.th, .int .i64 b.ve, .bool b.rd, .bool b.wr, .bool b.wk]) (cs := #[.int .i64 b.th, .int .i64 b.ve, .bool b.rd, .bool b.wr, .bool b.wk]) rfl rfl rfl ?_
   intro B904 w905 hN906
   have hlB904 := hN_ge hN906 hb903
   have lt_B900_B904 := hN_gtl hN906 (hN902.blk).lt
   have hb907 := low0 hb903 hN906.grw
   refine wpo_assign (v := .bool false) rfl rfl ?_
   refine wpo_nil ?_
   refine wpf_seq_mid (fun f' w' => (f' 4 = .bool (rightOk a && rightOk b)) ∧ w905.grownBy w' none) ?_ ?_
   ·
    rcases bcases (rightOk a) with h935 | h935
    ·
     rcases bcases (rightOk b) with h944 | h944
     ·
      refine wpf_draw (m := 10) (vals := [(5, .agg #[.int .i64 a.th, .int .i64 a.ve, .bool a.rd, .bool a.wr, .bool a.wk]), (6, .bool (rightOk a)), (7, .bool (rightOk a)), (8, .agg #[.int .i64 b.th, .int .i64 b.ve, .bool b.rd, .bool b.wr, .bool b.wk]), (9, .bool (rightOk b)), (10, .bool (rightOk b)), (11, .bool (rightOk b)), (12, .agg #[.int .i64 a.th, .int .i64 a.ve, .bool a.rd, .bool a.wr, .bool a.wk]), (13, .iface 123 (.agg #[])), (14, .agg #[.int .i64 b.th, .int .i64 b.ve, .bool b.rd, .bool b.wr, .bool b.wk])]) (fun w' => w905.grownBy w' none) mixed_ (by kernel_rfl) (grown_drew _) ?_ ?_
      ·
       refine yll_cons rfl (fun w996 hi997 => ?_) ?_
       ·
        have hb998 := low0 hb907 hi997
        have k999 := ((hN902.blk.grown0 hN906.grw).grown0 hi997)
        refine wpo_loadn (vs := [.int .i64 a.th, .int .i64 a.ve, .bool a.rd, .bool a.wr, .bool a.wk]) rt_29 rfl rfl (k999.rangeL 0 5 rfl) rfl ?_
        exact wpo_nil ⟨rfl, hi997⟩
       refine yll_cons rfl (fun w1000 hi1001 => ?_) ?_
       ·
        have hb1002 := low0 hb907 hi1001
        refine wpo_call (vs := [.agg #[.int .i64 a.th, .int .i64 a.ve, .bool a.rd, .bool a.wr, .bool a.wk]]) gf_20 (args_cons rfl args_nil) rfl (RightOk_c a _) ?_
        rintro _ w1003 ⟨rfl, hg1004⟩
        have hb1005 := low0 hb1002 hg1004
        exact wpo_nil ⟨rfl, (grown_trans hi1001 hg1004)⟩
       refine yll_cons rfl (fun w1006 hi1007 => ?_) ?_
       ·
        have hb1008 := low0 hb907 hi1007
        refine wpo_move (v := .bool (rightOk a)) rfl rfl ?_
        exact wpo_nil ⟨rfl, hi1007⟩
       refine yll_cons rfl (fun w1009 hi1010 => ?_) ?_
       ·
        have hb1011 := low0 hb907 hi1010
        refine wpo_run rfl rfl rfl h935 ?_
        have k1012 := (hN906.blk.grown0 hi1010)
        refine wpo_loadn (vs := [.int .i64 b.th, .int .i64 b.ve, .bool b.rd, .bool b.wr, .bool b.wk]) rt_29 rfl rfl (k1012.rangeL 0 5 rfl) rfl ?_
        exact wpo_nil ⟨rfl, hi1010⟩
       refine yll_cons rfl (fun w1013 hi1014 => ?_) ?_
       ·
        have hb1015 := low0 hb907 hi1014
        refine wpo_run rfl rfl rfl h935 ?_
        refine wpo_call (vs := [.agg #[.int .i64 b.th, .int .i64 b.ve, .bool b.rd, .bool b.wr, .bool b.wk]]) gf_20 (args_cons rfl args_nil) rfl (RightOk_c b _) ?_
        rintro _ w1016 ⟨rfl, hg1017⟩
        have hb1018 := low0 hb1015 hg1017
        exact wpo_nil ⟨rfl, (grown_trans hi1014 hg1017)⟩
       refine yll_cons rfl (fun w1019 hi1020 => ?_) ?_
       ·
        have hb1021 := low0 hb907 hi1020
        refine wpo_pickt (v := .bool (rightOk b)) rfl h935 rfl rfl ?_
        exact wpo_nil ⟨rfl, hi1020⟩
       refine yll_cons rfl (fun w1022 hi1023 => ?_) ?_
       ·
        have hb1024 := low0 hb907 hi1023
        refine wpo_move (v := .bool (rightOk b)) rfl rfl ?_
        exact wpo_nil ⟨rfl, hi1023⟩
       refine yll_cons rfl (fun w1025 hi1026 => ?_) ?_
       ·
        have hb1027 := low0 hb907 hi1026
        refine wpo_run rfl rfl rfl h944 ?_
        have k1028 := ((hN902.blk.grown0 hN906.grw).grown0 hi1026)
        refine wpo_loadn (vs := [.int .i64 a.th, .int .i64 a.ve, .bool a.rd, .bool a.wr, .bool a.wk]) rt_29 rfl rfl (k1028.rangeL 0 5 rfl) rfl ?_
        exact wpo_nil ⟨rfl, hi1026⟩
       refine yll_cons rfl (fun w1029 hi1030 => ?_) ?_
       ·
        have hb1031 := low0 hb907 hi1030
        refine wpo_run rfl rfl rfl h944 ?_
        refine wpo_call (vs := [.agg #[.int .i64 a.th, .int .i64 a.ve, .bool a.rd, .bool a.wr, .bool a.wk]]) gf_64 (args_cons rfl args_nil) rfl (capOf_t a h628 _) ?_
        rintro _ w1032 ⟨rfl, hg1033⟩
        have hb1034 := low0 hb1031 hg1033
        exact wpo_nil ⟨rfl, (grown_trans hi1030 hg1033)⟩
       refine yll_cons rfl (fun w1035 hi1036 => ?_) ?_
       ·
        have hb1037 := low0 hb907 hi1036
        refine wpo_run rfl rfl rfl h944 ?_
        have k1038 := (hN906.blk.grown0 hi1036)
        refine wpo_loadn (vs := [.int .i64 b.th, .int .i64 b.ve, .bool b.rd, .bool b.wr, .bool b.wk]) rt_29 rfl rfl (k1038.rangeL 0 5 rfl) rfl ?_
        exact wpo_nil ⟨rfl, hi1036⟩
       exact yll_nil
      ·
       intro w1039 hi1040
       have hb1041 := low0 hb907 hi1040
       refine wpo_run rfl rfl rfl h944 ?_
       refine wpo_call (vs := [.agg #[.int .i64 b.th, .int .i64 b.ve, .bool b.rd, .bool b.wr, .bool b.wk]]) gf_64 (args_cons rfl args_nil) rfl (capOf_f b h630 _) ?_
       rintro _ w1042 ⟨rfl, hg1043⟩
       have hb1044 := low0 hb1041 hg1043
       refine wpo_run rfl rfl rfl h944 ?_
       refine wpo_call (vs := [.iface 123 (.agg #[]), .iface 125 (.agg #[.int .i64 b.th, .int .i64 b.ve, .bool b.rd, .bool b.wr, .bool b.wk])]) gf_63 (args_cons rfl (args_cons rfl args_nil)) rfl (capIn_n _ _) ?_
       rintro _ w1045 ⟨rfl, hg1046⟩
       have hb1047 := low0 hb1044 hg1046
       refine wpo_pickt (v := .bool true) rfl h944 rfl rfl ?_
       refine wpo_assign (v := .bool true) rfl rfl ?_
       exact wpo_nil (thn_n ⟨(congrArg Value.bool (by first | (simp only [h628, h630, h935, h944, b0, b1, b2, b3, b4, b5, b6, b7, b8, b9]; done) | simp [h628, h630, h935, h944])), (grown_trans (grown_trans hi1040 hg1043) hg1046)⟩)
     ·
      refine wpf_draw (m := 10) (vals := [(5, .agg #[.int .i64 a.th, .int .i64 a.ve, .bool a.rd, .bool a.wr, .bool a.wk]), (6, .bool (rightOk a)), (7, .bool (rightOk a)), (8, .agg #[.int .i64 b.th, .int .i64 b.ve, .bool b.rd, .bool b.wr, .bool b.wk]), (9, .bool (rightOk b)), (10, .bool (rightOk b)), (11, .bool (rightOk b)), (12, undef), (13, undef), (14, undef)]) (fun w' => w905.grownBy w' none) mixed_ (by kernel_rfl) (grown_drew _) ?_ ?_
      ·
       refine yll_cons rfl (fun w1072 hi1073 => ?_) ?_
       ·
        have hb1074 := low0 hb907 hi1073
        have k1075 := ((hN902.blk.grown0 hN906.grw).grown0 hi1073)
        refine wpo_loadn (vs := [.int .i64 a.th, .int .i64 a.ve, .bool a.rd, .bool a.wr, .bool a.wk]) rt_29 rfl rfl (k1075.rangeL 0 5 rfl) rfl ?_
        exact wpo_nil ⟨rfl, hi1073⟩
       refine yll_cons rfl (fun w1076 hi1077 => ?_) ?_
       ·
        have hb1078 := low0 hb907 hi1077
        refine wpo_call (vs := [.agg #[.int .i64 a.th, .int .i64 a.ve, .bool a.rd, .bool a.wr, .bool a.wk]]) gf_20 (args_cons rfl args_nil) rfl (RightOk_c a _) ?_
        rintro _ w1079 ⟨rfl, hg1080⟩
        have hb1081 := low0 hb1078 hg1080
        exact wpo_nil ⟨rfl, (grown_trans hi1077 hg1080)⟩
       refine yll_cons rfl (fun w1082 hi1083 => ?_) ?_
       ·
        have hb1084 := low0 hb907 hi1083
        refine wpo_move (v := .bool (rightOk a)) rfl rfl ?_
        exact wpo_nil ⟨rfl, hi1083⟩
       refine yll_cons rfl (fun w1085 hi1086 => ?_) ?_
       ·
        have hb1087 := low0 hb907 hi1086
        refine wpo_run rfl rfl rfl h935 ?_
        have k1088 := (hN906.blk.grown0 hi1086)
        refine wpo_loadn (vs := [.int .i64 b.th, .int .i64 b.ve, .bool b.rd, .bool b.wr, .bool b.wk]) rt_29 rfl rfl (k1088.rangeL 0 5 rfl) rfl ?_
        exact wpo_nil ⟨rfl, hi1086⟩
       refine yll_cons rfl (fun w1089 hi1090 => ?_) ?_
       ·
        have hb1091 := low0 hb907 hi1090
        refine wpo_run rfl rfl rfl h935 ?_
        refine wpo_call (vs := [.agg #[.int .i64 b.th, .int .i64 b.ve, .bool b.rd, .bool b.wr, .bool b.wk]]) gf_20 (args_cons rfl args_nil) rfl (RightOk_c b _) ?_
        rintro _ w1092 ⟨rfl, hg1093⟩
        have hb1094 := low0 hb1091 hg1093
        exact wpo_nil ⟨rfl, (grown_trans hi1090 hg1093)⟩
       refine yll_cons rfl (fun w1095 hi1096 => ?_) ?_
       ·
        have hb1097 := low0 hb907 hi1096
        refine wpo_pickt (v := .bool (rightOk b)) rfl h935 rfl rfl ?_
        exact wpo_nil ⟨rfl, hi1096⟩
       refine yll_cons rfl (fun w1098 hi1099 => ?_) ?_
       ·
        have hb1100 := low0 hb907 hi1099
        refine wpo_move (v := .bool (rightOk b)) rfl rfl ?_
        exact wpo_nil ⟨rfl, hi1099⟩
       refine yll_cons rfl (fun w1101 hi1102 => ?_) ?_
       ·
        have hb1103 := low0 hb907 hi1102
        refine wpo_pass rfl rfl rfl h944 rfl ?_
        exact wpo_nil ⟨rfl, hi1102⟩
       refine yll_cons rfl (fun w1104 hi1105 => ?_) ?_
       ·
        have hb1106 := low0 hb907 hi1105
        refine wpo_pass rfl rfl rfl h944 rfl ?_
        exact wpo_nil ⟨rfl, hi1105⟩
       refine yll_cons rfl (fun w1107 hi1108 => ?_) ?_
       ·
        have hb1109 := low0 hb907 hi1108
        refine wpo_pass rfl rfl rfl h944 rfl ?_
        exact wpo_nil ⟨rfl, hi1108⟩
       exact yll_nil
      ·
       intro w1110 hi1111
       have hb1112 := low0 hb907 hi1111
       refine wpo_pass rfl rfl rfl h944 rfl ?_
       refine wpo_pass rfl rfl rfl h944 rfl ?_
       refine wpo_pickf (v := .bool false) rfl h944 rfl rfl ?_
       refine wpo_assign (v := .bool false) rfl rfl ?_
       exact wpo_nil (thn_n ⟨(congrArg Value.bool (by first | (simp only [h628, h630, h935, h944, b0, b1, b2, b3, b4, b5, b6, b7, b8, b9]; done) | simp [h628, h630, h935, h944])), hi1111⟩)
    ·
     refine wpf_draw (m := 10) (vals := [(5, .agg #[.int .i64 a.th, .int .i64 a.ve, .bool a.rd, .bool a.wr, .bool a.wk]), (6, .bool (rightOk a)), (7, .bool (rightOk a)), (8, undef), (9, undef), (10, .bool false), (11, .bool false), (12, undef), (13, undef), (14, undef)]) (fun w' => w905.grownBy w' none) mixed_ (by kernel_rfl) (grown_drew _) ?_ ?_
     ·
      refine yll_cons rfl (fun w1125 hi1126 => ?_) ?_
      ·
       have hb1127 := low0 hb907 hi1126
       have k1128 := ((hN902.blk.grown0 hN906.grw).grown0 hi1126)
       refine wpo_loadn (vs := [.int .i64 a.th, .int .i64 a.ve, .bool a.rd, .bool a.wr, .bool a.wk]) rt_29 rfl rfl (k1128.rangeL 0 5 rfl) rfl ?_
       exact wpo_nil ⟨rfl, hi1126⟩
      refine yll_cons rfl (fun w1129 hi1130 => ?_) ?_
      ·
       have hb1131 := low0 hb907 hi1130
       refine wpo_call (vs := [.agg #[.int .i64 a.th, .int .i64 a.ve, .bool a.rd, .bool a.wr, .bool a.wk]]) gf_20 (args_cons rfl args_nil) rfl (RightOk_c a _) ?_
       rintro _ w1132 ⟨rfl, hg1133⟩
       have hb1134 := low0 hb1131 hg1133
       exact wpo_nil ⟨rfl, (grown_trans hi1130 hg1133)⟩
      refine yll_cons rfl (fun w1135 hi1136 => ?_) ?_
      ·
       have hb1137 := low0 hb907 hi1136
       refine wpo_move (v := .bool (rightOk a)) rfl rfl ?_
       exact wpo_nil ⟨rfl, hi1136⟩
      refine yll_cons rfl (fun w1138 hi1139 => ?_) ?_
      ·
       have hb1140 := low0 hb907 hi1139
       refine wpo_pass rfl rfl rfl h935 rfl ?_
       exact wpo_nil ⟨rfl, hi1139⟩
      refine yll_cons rfl (fun w1141 hi1142 => ?_) ?_
      ·
       have hb1143 := low0 hb907 hi1142
       refine wpo_pass rfl rfl rfl h935 rfl ?_
       exact wpo_nil ⟨rfl, hi1142⟩
      refine yll_cons rfl (fun w1144 hi1145 => ?_) ?_
      ·
       have hb1146 := low0 hb907 hi1145
       refine wpo_pickf (v := .bool false) rfl h935 rfl rfl ?_
       exact wpo_nil ⟨rfl, hi1145⟩
      refine yll_cons rfl (fun w1147 hi1148 => ?_) ?_
      ·
       have hb1149 := low0 hb907 hi1148
       refine wpo_move (v := .bool false) rfl rfl ?_
       exact wpo_nil ⟨rfl, hi1148⟩
      refine yll_cons rfl (fun w1150 hi1151 => ?_) ?_
      ·
       have hb1152 := low0 hb907 hi1151
       refine wpo_pass rfl rfl rfl rfl rfl ?_
       exact wpo_nil ⟨rfl, hi1151⟩
      refine yll_cons rfl (fun w1153 hi1154 => ?_) ?_
      ·
       have hb1155 := low0 hb907 hi1154
       refine wpo_pass rfl rfl rfl rfl rfl ?_
       exact wpo_nil ⟨rfl, hi1154⟩
      refine yll_cons rfl (fun w1156 hi1157 => ?_) ?_
      ·
       have hb1158 := low0 hb907 hi1157
       refine wpo_pass rfl rfl rfl rfl rfl ?_
       exact wpo_nil ⟨rfl, hi1157⟩
      exact yll_nil
     ·
      intro w1159 hi1160
      have hb1161 := low0 hb907 hi1160
      refine wpo_pass rfl rfl rfl rfl rfl ?_
      refine wpo_pass rfl rfl rfl rfl rfl ?_
      refine wpo_pickf (v := .bool false) rfl rfl rfl rfl ?_
      refine wpo_assign (v := .bool false) rfl rfl ?_
      exact wpo_nil (thn_n ⟨(congrArg Value.bool (by first | (simp only [h628, h630, h935, b0, b1, b2, b3, b4, b5, b6, b7, b8, b9]; done) | simp [h628, h630, h935])), hi1160⟩)
   ·
    rintro f1162 w1163 ⟨e1164, hg1165⟩
    have hb1166 := low0 hb907 hg1165
    refine wpf_ret ?_
    refine ⟨.bool (rightOk a && rightOk b), res1 rfl e1164, ?_, hb1166⟩
    simp [rightIn, l2In_z h628]
 ·
  have h1167 := of_decide_eq_false h628
  rcases bcases (decide (b.th = 0)) with h1168 | h1168
  ·
   have h1169 := of_decide_eq_true h1168
   refine wpf_seq_region ?_
   refine wpo_box (v := .agg #[.int .i64 a.th, .int .i64 a.ve, .bool a.rd, .bool a.wr, .bool a.wk]) (cs := #[.int .i64 a.th, .int .i64 a.ve, .bool a.rd, .bool a.wr, .bool a.wk]) rfl rfl rfl ?_
   intro B1170 w1171 hN1172
   have hlB1170 := hN_ge hN1172 hb0
   have hb1173 := low0 hb0 hN1172.grw
   refine wpo_box (v := .agg #[.int .i64 b.th, .int .i64 b.ve, .bool b.rd, .bool b.wr, .bool b.wk]) (cs := #[.int .i64 b.th, .int .i64 b.ve, .bool b.rd, .bool b.wr, .bool b.wk]) rfl rfl rfl ?_
   intro B1174 w1175 hN1176
   have hlB1174 := hN_ge hN1176 hb1173
   have lt_B1170_B1174 := hN_gtl hN1176 (hN1172.blk).lt
   have hb1177 := low0 hb1173 hN1176.grw
   refine wpo_assign (v := .bool false) rfl rfl ?_
   refine wpo_nil ?_
   refine wpf_seq_mid (fun f' w' => (f' 4 = .bool ((rightOk a && rightOk b) && false)) ∧ w1175.grownBy w' none) ?_ ?_
   ·
    rcases bcases (rightOk a) with h1205 | h1205
    ·
     rcases bcases (rightOk b) with h1214 | h1214
     ·
      refine wpf_draw (m := 10) (vals := [(5, .agg #[.int .i64 a.th, .int .i64 a.ve, .bool a.rd, .bool a.wr, .bool a.wk]), (6, .bool (rightOk a)), (7, .bool (rightOk a)), (8, .agg #[.int .i64 b.th, .int .i64 b.ve, .bool b.rd, .bool b.wr, .bool b.wk]), (9, .bool (rightOk b)), (10, .bool (rightOk b)), (11, .bool (rightOk b)), (12, .agg #[.int .i64 a.th, .int .i64 a.ve, .bool a.rd, .bool a.wr, .bool a.wk]), (13, .iface 125 (.agg #[.int .i64 a.th, .int .i64 a.ve, .bool a.rd, .bool a.wr, .bool a.wk])), (14, .agg #[.int .i64 b.th, .int .i64 b.ve, .bool b.rd, .bool b.wr, .bool b.wk])]) (fun w' => w1175.grownBy w' none) mixed_ (by kernel_rfl) (grown_drew _) ?_ ?_
      ·
       refine yll_cons rfl (fun w1266 hi1267 => ?_) ?_
       ·
        have hb1268 := low0 hb1177 hi1267
        have k1269 := ((hN1172.blk.grown0 hN1176.grw).grown0 hi1267)
        refine wpo_loadn (vs := [.int .i64 a.th, .int .i64 a.ve, .bool a.rd, .bool a.wr, .bool a.wk]) rt_29 rfl rfl (k1269.rangeL 0 5 rfl) rfl ?_
        exact wpo_nil ⟨rfl, hi1267⟩
       refine yll_cons rfl (fun w1270 hi1271 => ?_) ?_
       ·
        have hb1272 := low0 hb1177 hi1271
        refine wpo_call (vs := [.agg #[.int .i64 a.th, .int .i64 a.ve, .bool a.rd, .bool a.wr, .bool a.wk]]) gf_20 (args_cons rfl args_nil) rfl (RightOk_c a _) ?_
        rintro _ w1273 ⟨rfl, hg1274⟩
        have hb1275 := low0 hb1272 hg1274
        exact wpo_nil ⟨rfl, (grown_trans hi1271 hg1274)⟩
       refine yll_cons rfl (fun w1276 hi1277 => ?_) ?_
       ·
        have hb1278 := low0 hb1177 hi1277
        refine wpo_move (v := .bool (rightOk a)) rfl rfl ?_
        exact wpo_nil ⟨rfl, hi1277⟩
       refine yll_cons rfl (fun w1279 hi1280 => ?_) ?_
       ·
        have hb1281 := low0 hb1177 hi1280
        refine wpo_run rfl rfl rfl h1205 ?_
        have k1282 := (hN1176.blk.grown0 hi1280)
        refine wpo_loadn (vs := [.int .i64 b.th, .int .i64 b.ve, .bool b.rd, .bool b.wr, .bool b.wk]) rt_29 rfl rfl (k1282.rangeL 0 5 rfl) rfl ?_
        exact wpo_nil ⟨rfl, hi1280⟩
       refine yll_cons rfl (fun w1283 hi1284 => ?_) ?_
       ·
        have hb1285 := low0 hb1177 hi1284
        refine wpo_run rfl rfl rfl h1205 ?_
        refine wpo_call (vs := [.agg #[.int .i64 b.th, .int .i64 b.ve, .bool b.rd, .bool b.wr, .bool b.wk]]) gf_20 (args_cons rfl args_nil) rfl (RightOk_c b _) ?_
        rintro _ w1286 ⟨rfl, hg1287⟩
        have hb1288 := low0 hb1285 hg1287
        exact wpo_nil ⟨rfl, (grown_trans hi1284 hg1287)⟩
       refine yll_cons rfl (fun w1289 hi1290 => ?_) ?_
       ·
        have hb1291 := low0 hb1177 hi1290
        refine wpo_pickt (v := .bool (rightOk b)) rfl h1205 rfl rfl ?_
        exact wpo_nil ⟨rfl, hi1290⟩
       refine yll_cons rfl (fun w1292 hi1293 => ?_) ?_
       ·
        have hb1294 := low0 hb1177 hi1293
        refine wpo_move (v := .bool (rightOk b)) rfl rfl ?_
        exact wpo_nil ⟨rfl, hi1293⟩
       refine yll_cons rfl (fun w1295 hi1296 => ?_) ?_
       ·
        have hb1297 := low0 hb1177 hi1296
        refine wpo_run rfl rfl rfl h1214 ?_
        have k1298 := ((hN1172.blk.grown0 hN1176.grw).grown0 hi1296)
        refine wpo_loadn (vs := [.int .i64 a.th, .int .i64 a.ve, .bool a.rd, .bool a.wr, .bool a.wk]) rt_29 rfl rfl (k1298.rangeL 0 5 rfl) rfl ?_
        exact wpo_nil ⟨rfl, hi1296⟩
       refine yll_cons rfl (fun w1299 hi1300 => ?_) ?_
       ·
        have hb1301 := low0 hb1177 hi1300
        refine wpo_run rfl rfl rfl h1214 ?_
        refine wpo_call (vs := [.agg #[.int .i64 a.th, .int .i64 a.ve, .bool a.rd, .bool a.wr, .bool a.wk]]) gf_64 (args_cons rfl args_nil) rfl (capOf_f a h628 _) ?_
        rintro _ w1302 ⟨rfl, hg1303⟩
        have hb1304 := low0 hb1301 hg1303
        exact wpo_nil ⟨rfl, (grown_trans hi1300 hg1303)⟩
       refine yll_cons rfl (fun w1305 hi1306 => ?_) ?_
       ·
        have hb1307 := low0 hb1177 hi1306
        refine wpo_run rfl rfl rfl h1214 ?_
        have k1308 := (hN1176.blk.grown0 hi1306)
        refine wpo_loadn (vs := [.int .i64 b.th, .int .i64 b.ve, .bool b.rd, .bool b.wr, .bool b.wk]) rt_29 rfl rfl (k1308.rangeL 0 5 rfl) rfl ?_
        exact wpo_nil ⟨rfl, hi1306⟩
       exact yll_nil
      ·
       intro w1309 hi1310
       have hb1311 := low0 hb1177 hi1310
       refine wpo_run rfl rfl rfl h1214 ?_
       refine wpo_call (vs := [.agg #[.int .i64 b.th, .int .i64 b.ve, .bool b.rd, .bool b.wr, .bool b.wk]]) gf_64 (args_cons rfl args_nil) rfl (capOf_t b h1168 _) ?_
       rintro _ w1312 ⟨rfl, hg1313⟩
       have hb1314 := low0 hb1311 hg1313
       refine wpo_run rfl rfl rfl h1214 ?_
       refine wpo_call (vs := [.iface 125 (.agg #[.int .i64 a.th, .int .i64 a.ve, .bool a.rd, .bool a.wr, .bool a.wk]), .iface 123 (.agg #[])]) gf_63 (args_cons rfl (args_cons rfl args_nil)) rfl (capIn_f a _) ?_
       rintro _ w1315 ⟨rfl, hg1316⟩
       have hb1317 := low0 hb1314 hg1316
       refine wpo_pickt (v := .bool false) rfl h1214 rfl rfl ?_
       refine wpo_assign (v := .bool false) rfl rfl ?_
       exact wpo_nil (thn_n ⟨(congrArg Value.bool (by first | (simp only [h1168, h1205, h1214, h628, b0, b1, b2, b3, b4, b5, b6, b7, b8, b9]; done) | simp [h1168, h1205, h1214, h628])), (grown_trans (grown_trans hi1310 hg1313) hg1316)⟩)
     ·
      refine wpf_draw (m := 10) (vals := [(5, .agg #[.int .i64 a.th, .int .i64 a.ve, .bool a.rd, .bool a.wr, .bool a.wk]), (6, .bool (rightOk a)), (7, .bool (rightOk a)), (8, .agg #[.int .i64 b.th, .int .i64 b.ve, .bool b.rd, .bool b.wr, .bool b.wk]), (9, .bool (rightOk b)), (10, .bool (rightOk b)), (11, .bool (rightOk b)), (12, undef), (13, undef), (14, undef)]) (fun w' => w1175.grownBy w' none) mixed_ (by kernel_rfl) (grown_drew _) ?_ ?_
      ·
       refine yll_cons rfl (fun w1342 hi1343 => ?_) ?_
       ·
        have hb1344 := low0 hb1177 hi1343
        have k1345 := ((hN1172.blk.grown0 hN1176.grw).grown0 hi1343)
        refine wpo_loadn (vs := [.int .i64 a.th, .int .i64 a.ve, .bool a.rd, .bool a.wr, .bool a.wk]) rt_29 rfl rfl (k1345.rangeL 0 5 rfl) rfl ?_
        exact wpo_nil ⟨rfl, hi1343⟩
       refine yll_cons rfl (fun w1346 hi1347 => ?_) ?_
       ·
        have hb1348 := low0 hb1177 hi1347
        refine wpo_call (vs := [.agg #[.int .i64 a.th, .int .i64 a.ve, .bool a.rd, .bool a.wr, .bool a.wk]]) gf_20 (args_cons rfl args_nil) rfl (RightOk_c a _) ?_
        rintro _ w1349 ⟨rfl, hg1350⟩
        have hb1351 := low0 hb1348 hg1350
        exact wpo_nil ⟨rfl, (grown_trans hi1347 hg1350)⟩
       refine yll_cons rfl (fun w1352 hi1353 => ?_) ?_
       ·
        have hb1354 := low0 hb1177 hi1353
        refine wpo_move (v := .bool (rightOk a)) rfl rfl ?_
        exact wpo_nil ⟨rfl, hi1353⟩
       refine yll_cons rfl (fun w1355 hi1356 => ?_) ?_
       ·
        have hb1357 := low0 hb1177 hi1356
        refine wpo_run rfl rfl rfl h1205 ?_
        have k1358 := (hN1176.blk.grown0 hi1356)
        refine wpo_loadn (vs := [.int .i64 b.th, .int .i64 b.ve, .bool b.rd, .bool b.wr, .bool b.wk]) rt_29 rfl rfl (k1358.rangeL 0 5 rfl) rfl ?_
        exact wpo_nil ⟨rfl, hi1356⟩
       refine yll_cons rfl (fun w1359 hi1360 => ?_) ?_
       ·
        have hb1361 := low0 hb1177 hi1360
        refine wpo_run rfl rfl rfl h1205 ?_
        refine wpo_call (vs := [.agg #[.int .i64 b.th, .int .i64 b.ve, .bool b.rd, .bool b.wr, .bool b.wk]]) gf_20 (args_cons rfl args_nil) rfl (RightOk_c b _) ?_
        rintro _ w1362 ⟨rfl, hg1363⟩
        have hb1364 := low0 hb1361 hg1363
        exact wpo_nil ⟨rfl, (grown_trans hi1360 hg1363)⟩
       refine yll_cons rfl (fun w1365 hi1366 => ?_) ?_
       ·
        have hb1367 := low0 hb1177 hi1366
        refine wpo_pickt (v := .bool (rightOk b)) rfl h1205 rfl rfl ?_
        exact wpo_nil ⟨rfl, hi1366⟩
       refine yll_cons rfl (fun w1368 hi1369 => ?_) ?_
       ·
        have hb1370 := low0 hb1177 hi1369
        refine wpo_move (v := .bool (rightOk b)) rfl rfl ?_
        exact wpo_nil ⟨rfl, hi1369⟩
       refine yll_cons rfl (fun w1371 hi1372 => ?_) ?_
       ·
        have hb1373 := low0 hb1177 hi1372
        refine wpo_pass rfl rfl rfl h1214 rfl ?_
        exact wpo_nil ⟨rfl, hi1372⟩
       refine yll_cons rfl (fun w1374 hi1375 => ?_) ?_
       ·
        have hb1376 := low0 hb1177 hi1375
        refine wpo_pass rfl rfl rfl h1214 rfl ?_
        exact wpo_nil ⟨rfl, hi1375⟩
       refine yll_cons rfl (fun w1377 hi1378 => ?_) ?_
       ·
        have hb1379 := low0 hb1177 hi1378
        refine wpo_pass rfl rfl rfl h1214 rfl ?_
        exact wpo_nil ⟨rfl, hi1378⟩
       exact yll_nil
      ·
       intro w1380 hi1381
       have hb1382 := low0 hb1177 hi1381
       refine wpo_pass rfl rfl rfl h1214 rfl ?_
       refine wpo_pass rfl rfl rfl h1214 rfl ?_
       refine wpo_pickf (v := .bool false) rfl h1214 rfl rfl ?_
       refine wpo_assign (v := .bool false) rfl rfl ?_
       exact wpo_nil (thn_n ⟨(congrArg Value.bool (by first | (simp only [h1168, h1205, h1214, h628, b0, b1, b2, b3, b4, b5, b6, b7, b8, b9]; done) | simp [h1168, h1205, h1214, h628])), hi1381⟩)
    ·
     refine wpf_draw (m := 10) (vals := [(5, .agg #[.int .i64 a.th, .int .i64 a.ve, .bool a.rd, .bool a.wr, .bool a.wk]), (6, .bool (rightOk a)), (7, .bool (rightOk a)), (8, undef), (9, undef), (10, .bool false), (11, .bool false), (12, undef), (13, undef), (14, undef)]) (fun w' => w1175.grownBy w' none) mixed_ (by kernel_rfl) (grown_drew _) ?_ ?_
     ·
      refine yll_cons rfl (fun w1395 hi1396 => ?_) ?_
      ·
       have hb1397 := low0 hb1177 hi1396
       have k1398 := ((hN1172.blk.grown0 hN1176.grw).grown0 hi1396)
       refine wpo_loadn (vs := [.int .i64 a.th, .int .i64 a.ve, .bool a.rd, .bool a.wr, .bool a.wk]) rt_29 rfl rfl (k1398.rangeL 0 5 rfl) rfl ?_
       exact wpo_nil ⟨rfl, hi1396⟩
      refine yll_cons rfl (fun w1399 hi1400 => ?_) ?_
      ·
       have hb1401 := low0 hb1177 hi1400
       refine wpo_call (vs := [.agg #[.int .i64 a.th, .int .i64 a.ve, .bool a.rd, .bool a.wr, .bool a.wk]]) gf_20 (args_cons rfl args_nil) rfl (RightOk_c a _) ?_
       rintro _ w1402 ⟨rfl, hg1403⟩
       have hb1404 := low0 hb1401 hg1403
       exact wpo_nil ⟨rfl, (grown_trans hi1400 hg1403)⟩
      refine yll_cons rfl (fun w1405 hi1406 => ?_) ?_
      ·
       have hb1407 := low0 hb1177 hi1406
       refine wpo_move (v := .bool (rightOk a)) rfl rfl ?_
       exact wpo_nil ⟨rfl, hi1406⟩
      refine yll_cons rfl (fun w1408 hi1409 => ?_) ?_
      ·
       have hb1410 := low0 hb1177 hi1409
       refine wpo_pass rfl rfl rfl h1205 rfl ?_
       exact wpo_nil ⟨rfl, hi1409⟩
      refine yll_cons rfl (fun w1411 hi1412 => ?_) ?_
      ·
       have hb1413 := low0 hb1177 hi1412
       refine wpo_pass rfl rfl rfl h1205 rfl ?_
       exact wpo_nil ⟨rfl, hi1412⟩
      refine yll_cons rfl (fun w1414 hi1415 => ?_) ?_
      ·
       have hb1416 := low0 hb1177 hi1415
       refine wpo_pickf (v := .bool false) rfl h1205 rfl rfl ?_
       exact wpo_nil ⟨rfl, hi1415⟩
      refine yll_cons rfl (fun w1417 hi1418 => ?_) ?_
      ·
       have hb1419 := low0 hb1177 hi1418
       refine wpo_move (v := .bool false) rfl rfl ?_
       exact wpo_nil ⟨rfl, hi1418⟩
      refine yll_cons rfl (fun w1420 hi1421 => ?_) ?_
      ·
       have hb1422 := low0 hb1177 hi1421
       refine wpo_pass rfl rfl rfl rfl rfl ?_
       exact wpo_nil ⟨rfl, hi1421⟩
      refine yll_cons rfl (fun w1423 hi1424 => ?_) ?_
      ·
       have hb1425 := low0 hb1177 hi1424
       refine wpo_pass rfl rfl rfl rfl rfl ?_
       exact wpo_nil ⟨rfl, hi1424⟩
      refine yll_cons rfl (fun w1426 hi1427 => ?_) ?_
      ·
       have hb1428 := low0 hb1177 hi1427
       refine wpo_pass rfl rfl rfl rfl rfl ?_
       exact wpo_nil ⟨rfl, hi1427⟩
      exact yll_nil
     ·
      intro w1429 hi1430
      have hb1431 := low0 hb1177 hi1430
      refine wpo_pass rfl rfl rfl rfl rfl ?_
      refine wpo_pass rfl rfl rfl rfl rfl ?_
      refine wpo_pickf (v := .bool false) rfl rfl rfl rfl ?_
      refine wpo_assign (v := .bool false) rfl rfl ?_
      exact wpo_nil (thn_n ⟨(congrArg Value.bool (by first | (simp only [h1168, h1205, h628, b0, b1, b2, b3, b4, b5, b6, b7, b8, b9]; done) | simp [h1168, h1205, h628])), hi1430⟩)
   ·
    rintro f1432 w1433 ⟨e1434, hg1435⟩
    have hb1436 := low0 hb1177 hg1435
    refine wpf_ret ?_
    refine ⟨.bool ((rightOk a && rightOk b) && false), res1 rfl e1434, ?_, hb1436⟩
    simp [rightIn, l2In_f h628 h1168]
  ·
   have h1437 := of_decide_eq_false h1168
   refine wpf_seq_region ?_
   refine wpo_box (v := .agg #[.int .i64 a.th, .int .i64 a.ve, .bool a.rd, .bool a.wr, .bool a.wk]) (cs := #[.int .i64 a.th, .int .i64 a.ve, .bool a.rd, .bool a.wr, .bool a.wk]) rfl rfl rfl ?_
   intro B1438 w1439 hN1440
   have hlB1438 := hN_ge hN1440 hb0
   have hb1441 := low0 hb0 hN1440.grw
   refine wpo_box (v := .agg #[.int .i64 b.th, .int .i64 b.ve, .bool b.rd, .bool b.wr, .bool b.wk]) (cs := #[.int .i64 b.th, .int .i64 b.ve, .bool b.rd, .bool b.wr, .bool b.wk]) rfl rfl rfl ?_
   intro B1442 w1443 hN1444
   have hlB1442 := hN_ge hN1444 hb1441
   have lt_B1438_B1442 := hN_gtl hN1444 (hN1440.blk).lt
   have hb1445 := low0 hb1441 hN1444.grw
   refine wpo_assign (v := .bool false) rfl rfl ?_
   refine wpo_nil ?_
   refine wpf_seq_mid (fun f' w' => (f' 4 = .bool ((rightOk a && rightOk b) && l2x a b)) ∧ w1443.grownBy w' none) ?_ ?_
   ·
    rcases bcases (rightOk a) with h1473 | h1473
    ·
     rcases bcases (rightOk b) with h1482 | h1482
     ·
      refine wpf_draw (m := 10) (vals := [(5, .agg #[.int .i64 a.th, .int .i64 a.ve, .bool a.rd, .bool a.wr, .bool a.wk]), (6, .bool (rightOk a)), (7, .bool (rightOk a)), (8, .agg #[.int .i64 b.th, .int .i64 b.ve, .bool b.rd, .bool b.wr, .bool b.wk]), (9, .bool (rightOk b)), (10, .bool (rightOk b)), (11, .bool (rightOk b)), (12, .agg #[.int .i64 a.th, .int .i64 a.ve, .bool a.rd, .bool a.wr, .bool a.wk]), (13, .iface 125 (.agg #[.int .i64 a.th, .int .i64 a.ve, .bool a.rd, .bool a.wr, .bool a.wk])), (14, .agg #[.int .i64 b.th, .int .i64 b.ve, .bool b.rd, .bool b.wr, .bool b.wk])]) (fun w' => w1443.grownBy w' none) mixed_ (by kernel_rfl) (grown_drew _) ?_ ?_
      ·
       refine yll_cons rfl (fun w1534 hi1535 => ?_) ?_
       ·
        have hb1536 := low0 hb1445 hi1535
        have k1537 := ((hN1440.blk.grown0 hN1444.grw).grown0 hi1535)
        refine wpo_loadn (vs := [.int .i64 a.th, .int .i64 a.ve, .bool a.rd, .bool a.wr, .bool a.wk]) rt_29 rfl rfl (k1537.rangeL 0 5 rfl) rfl ?_
        exact wpo_nil ⟨rfl, hi1535⟩
       refine yll_cons rfl (fun w1538 hi1539 => ?_) ?_
       ·
        have hb1540 := low0 hb1445 hi1539
        refine wpo_call (vs := [.agg #[.int .i64 a.th, .int .i64 a.ve, .bool a.rd, .bool a.wr, .bool a.wk]]) gf_20 (args_cons rfl args_nil) rfl (RightOk_c a _) ?_
        rintro _ w1541 ⟨rfl, hg1542⟩
        have hb1543 := low0 hb1540 hg1542
        exact wpo_nil ⟨rfl, (grown_trans hi1539 hg1542)⟩
       refine yll_cons rfl (fun w1544 hi1545 => ?_) ?_
       ·
        have hb1546 := low0 hb1445 hi1545
        refine wpo_move (v := .bool (rightOk a)) rfl rfl ?_
        exact wpo_nil ⟨rfl, hi1545⟩
       refine yll_cons rfl (fun w1547 hi1548 => ?_) ?_
       ·
        have hb1549 := low0 hb1445 hi1548
        refine wpo_run rfl rfl rfl h1473 ?_
        have k1550 := (hN1444.blk.grown0 hi1548)
        refine wpo_loadn (vs := [.int .i64 b.th, .int .i64 b.ve, .bool b.rd, .bool b.wr, .bool b.wk]) rt_29 rfl rfl (k1550.rangeL 0 5 rfl) rfl ?_
        exact wpo_nil ⟨rfl, hi1548⟩
       refine yll_cons rfl (fun w1551 hi1552 => ?_) ?_
       ·
        have hb1553 := low0 hb1445 hi1552
        refine wpo_run rfl rfl rfl h1473 ?_
        refine wpo_call (vs := [.agg #[.int .i64 b.th, .int .i64 b.ve, .bool b.rd, .bool b.wr, .bool b.wk]]) gf_20 (args_cons rfl args_nil) rfl (RightOk_c b _) ?_
        rintro _ w1554 ⟨rfl, hg1555⟩
        have hb1556 := low0 hb1553 hg1555
        exact wpo_nil ⟨rfl, (grown_trans hi1552 hg1555)⟩
       refine yll_cons rfl (fun w1557 hi1558 => ?_) ?_
       ·
        have hb1559 := low0 hb1445 hi1558
        refine wpo_pickt (v := .bool (rightOk b)) rfl h1473 rfl rfl ?_
        exact wpo_nil ⟨rfl, hi1558⟩
       refine yll_cons rfl (fun w1560 hi1561 => ?_) ?_
       ·
        have hb1562 := low0 hb1445 hi1561
        refine wpo_move (v := .bool (rightOk b)) rfl rfl ?_
        exact wpo_nil ⟨rfl, hi1561⟩
       refine yll_cons rfl (fun w1563 hi1564 => ?_) ?_
       ·
        have hb1565 := low0 hb1445 hi1564
        refine wpo_run rfl rfl rfl h1482 ?_
        have k1566 := ((hN1440.blk.grown0 hN1444.grw).grown0 hi1564)
        refine wpo_loadn (vs := [.int .i64 a.th, .int .i64 a.ve, .bool a.rd, .bool a.wr, .bool a.wk]) rt_29 rfl rfl (k1566.rangeL 0 5 rfl) rfl ?_
        exact wpo_nil ⟨rfl, hi1564⟩
       refine yll_cons rfl (fun w1567 hi1568 => ?_) ?_
       ·
        have hb1569 := low0 hb1445 hi1568
        refine wpo_run rfl rfl rfl h1482 ?_
        refine wpo_call (vs := [.agg #[.int .i64 a.th, .int .i64 a.ve, .bool a.rd, .bool a.wr, .bool a.wk]]) gf_64 (args_cons rfl args_nil) rfl (capOf_f a h628 _) ?_
        rintro _ w1570 ⟨rfl, hg1571⟩
        have hb1572 := low0 hb1569 hg1571
        exact wpo_nil ⟨rfl, (grown_trans hi1568 hg1571)⟩
       refine yll_cons rfl (fun w1573 hi1574 => ?_) ?_
       ·
        have hb1575 := low0 hb1445 hi1574
        refine wpo_run rfl rfl rfl h1482 ?_
        have k1576 := (hN1444.blk.grown0 hi1574)
        refine wpo_loadn (vs := [.int .i64 b.th, .int .i64 b.ve, .bool b.rd, .bool b.wr, .bool b.wk]) rt_29 rfl rfl (k1576.rangeL 0 5 rfl) rfl ?_
        exact wpo_nil ⟨rfl, hi1574⟩
       exact yll_nil
      ·
       intro w1577 hi1578
       have hb1579 := low0 hb1445 hi1578
       refine wpo_run rfl rfl rfl h1482 ?_
       refine wpo_call (vs := [.agg #[.int .i64 b.th, .int .i64 b.ve, .bool b.rd, .bool b.wr, .bool b.wk]]) gf_64 (args_cons rfl args_nil) rfl (capOf_f b h1168 _) ?_
       rintro _ w1580 ⟨rfl, hg1581⟩
       have hb1582 := low0 hb1579 hg1581
       refine wpo_run rfl rfl rfl h1482 ?_
       refine wpo_call (vs := [.iface 125 (.agg #[.int .i64 a.th, .int .i64 a.ve, .bool a.rd, .bool a.wr, .bool a.wk]), .iface 125 (.agg #[.int .i64 b.th, .int .i64 b.ve, .bool b.rd, .bool b.wr, .bool b.wk])]) gf_63 (args_cons rfl (args_cons rfl args_nil)) rfl (capIn_r a b _) ?_
       rintro _ w1583 ⟨rfl, hg1584⟩
       have hb1585 := low0 hb1582 hg1584
       refine wpo_pickt (v := .bool (l2x a b)) rfl h1482 rfl rfl ?_
       refine wpo_assign (v := .bool (l2x a b)) rfl rfl ?_
       exact wpo_nil (thn_n ⟨(congrArg Value.bool (by first | (simp only [h1168, h1473, h1482, h628, b0, b1, b2, b3, b4, b5, b6, b7, b8, b9]; done) | simp [h1168, h1473, h1482, h628])), (grown_trans (grown_trans hi1578 hg1581) hg1584)⟩)
     ·
      refine wpf_draw (m := 10) (vals := [(5, .agg #[.int .i64 a.th, .int .i64 a.ve, .bool a.rd, .bool a.wr, .bool a.wk]), (6, .bool (rightOk a)), (7, .bool (rightOk a)), (8, .agg #[.int .i64 b.th, .int .i64 b.ve, .bool b.rd, .bool b.wr, .bool b.wk]), (9, .bool (rightOk b)), (10, .bool (rightOk b)), (11, .bool (rightOk b)), (12, undef), (13, undef), (14, undef)]) (fun w' => w1443.grownBy w' none) mixed_ (by kernel_rfl) (grown_drew _) ?_ ?_
      ·
       refine yll_cons rfl (fun w1610 hi1611 => ?_) ?_
       ·
        have hb1612 := low0 hb1445 hi1611
        have k1613 := ((hN1440.blk.grown0 hN1444.grw).grown0 hi1611)
        refine wpo_loadn (vs := [.int .i64 a.th, .int .i64 a.ve, .bool a.rd, .bool a.wr, .bool a.wk]) rt_29 rfl rfl (k1613.rangeL 0 5 rfl) rfl ?_
        exact wpo_nil ⟨rfl, hi1611⟩
       refine yll_cons rfl (fun w1614 hi1615 => ?_) ?_
       ·
        have hb1616 := low0 hb1445 hi1615
        refine wpo_call (vs := [.agg #[.int .i64 a.th, .int .i64 a.ve, .bool a.rd, .bool a.wr, .bool a.wk]]) gf_20 (args_cons rfl args_nil) rfl (RightOk_c a _) ?_
        rintro _ w1617 ⟨rfl, hg1618⟩
        have hb1619 := low0 hb1616 hg1618
        exact wpo_nil ⟨rfl, (grown_trans hi1615 hg1618)⟩
       refine yll_cons rfl (fun w1620 hi1621 => ?_) ?_
       ·
        have hb1622 := low0 hb1445 hi1621
        refine wpo_move (v := .bool (rightOk a)) rfl rfl ?_
        exact wpo_nil ⟨rfl, hi1621⟩
       refine yll_cons rfl (fun w1623 hi1624 => ?_) ?_
       ·
        have hb1625 := low0 hb1445 hi1624
        refine wpo_run rfl rfl rfl h1473 ?_
        have k1626 := (hN1444.blk.grown0 hi1624)
        refine wpo_loadn (vs := [.int .i64 b.th, .int .i64 b.ve, .bool b.rd, .bool b.wr, .bool b.wk]) rt_29 rfl rfl (k1626.rangeL 0 5 rfl) rfl ?_
        exact wpo_nil ⟨rfl, hi1624⟩
       refine yll_cons rfl (fun w1627 hi1628 => ?_) ?_
       ·
        have hb1629 := low0 hb1445 hi1628
        refine wpo_run rfl rfl rfl h1473 ?_
        refine wpo_call (vs := [.agg #[.int .i64 b.th, .int .i64 b.ve, .bool b.rd, .bool b.wr, .bool b.wk]]) gf_20 (args_cons rfl args_nil) rfl (RightOk_c b _) ?_
        rintro _ w1630 ⟨rfl, hg1631⟩
        have hb1632 := low0 hb1629 hg1631
        exact wpo_nil ⟨rfl, (grown_trans hi1628 hg1631)⟩
       refine yll_cons rfl (fun w1633 hi1634 => ?_) ?_
       ·
        have hb1635 := low0 hb1445 hi1634
        refine wpo_pickt (v := .bool (rightOk b)) rfl h1473 rfl rfl ?_
        exact wpo_nil ⟨rfl, hi1634⟩
       refine yll_cons rfl (fun w1636 hi1637 => ?_) ?_
       ·
        have hb1638 := low0 hb1445 hi1637
        refine wpo_move (v := .bool (rightOk b)) rfl rfl ?_
        exact wpo_nil ⟨rfl, hi1637⟩
       refine yll_cons rfl (fun w1639 hi1640 => ?_) ?_
       ·
        have hb1641 := low0 hb1445 hi1640
        refine wpo_pass rfl rfl rfl h1482 rfl ?_
        exact wpo_nil ⟨rfl, hi1640⟩
       refine yll_cons rfl (fun w1642 hi1643 => ?_) ?_
       ·
        have hb1644 := low0 hb1445 hi1643
        refine wpo_pass rfl rfl rfl h1482 rfl ?_
        exact wpo_nil ⟨rfl, hi1643⟩
       refine yll_cons rfl (fun w1645 hi1646 => ?_) ?_
       ·
        have hb1647 := low0 hb1445 hi1646
        refine wpo_pass rfl rfl rfl h1482 rfl ?_
        exact wpo_nil ⟨rfl, hi1646⟩
       exact yll_nil
      ·
       intro w1648 hi1649
       have hb1650 := low0 hb1445 hi1649
       refine wpo_pass rfl rfl rfl h1482 rfl ?_
       refine wpo_pass rfl rfl rfl h1482 rfl ?_
       refine wpo_pickf (v := .bool false) rfl h1482 rfl rfl ?_
       refine wpo_assign (v := .bool false) rfl rfl ?_
       exact wpo_nil (thn_n ⟨(congrArg Value.bool (by first | (simp only [h1168, h1473, h1482, h628, b0, b1, b2, b3, b4, b5, b6, b7, b8, b9]; done) | simp [h1168, h1473, h1482, h628])), hi1649⟩)
    ·
     refine wpf_draw (m := 10) (vals := [(5, .agg #[.int .i64 a.th, .int .i64 a.ve, .bool a.rd, .bool a.wr, .bool a.wk]), (6, .bool (rightOk a)), (7, .bool (rightOk a)), (8, undef), (9, undef), (10, .bool false), (11, .bool false), (12, undef), (13, undef), (14, undef)]) (fun w' => w1443.grownBy w' none) mixed_ (by kernel_rfl) (grown_drew _) ?_ ?_
     ·
      refine yll_cons rfl (fun w1663 hi1664 => ?_) ?_
      ·
       have hb1665 := low0 hb1445 hi1664
       have k1666 := ((hN1440.blk.grown0 hN1444.grw).grown0 hi1664)
       refine wpo_loadn (vs := [.int .i64 a.th, .int .i64 a.ve, .bool a.rd, .bool a.wr, .bool a.wk]) rt_29 rfl rfl (k1666.rangeL 0 5 rfl) rfl ?_
       exact wpo_nil ⟨rfl, hi1664⟩
      refine yll_cons rfl (fun w1667 hi1668 => ?_) ?_
      ·
       have hb1669 := low0 hb1445 hi1668
       refine wpo_call (vs := [.agg #[.int .i64 a.th, .int .i64 a.ve, .bool a.rd, .bool a.wr, .bool a.wk]]) gf_20 (args_cons rfl args_nil) rfl (RightOk_c a _) ?_
       rintro _ w1670 ⟨rfl, hg1671⟩
       have hb1672 := low0 hb1669 hg1671
       exact wpo_nil ⟨rfl, (grown_trans hi1668 hg1671)⟩
      refine yll_cons rfl (fun w1673 hi1674 => ?_) ?_
      ·
       have hb1675 := low0 hb1445 hi1674
       refine wpo_move (v := .bool (rightOk a)) rfl rfl ?_
       exact wpo_nil ⟨rfl, hi1674⟩
      refine yll_cons rfl (fun w1676 hi1677 => ?_) ?_
      ·
       have hb1678 := low0 hb1445 hi1677
       refine wpo_pass rfl rfl rfl h1473 rfl ?_
       exact wpo_nil ⟨rfl, hi1677⟩
      refine yll_cons rfl (fun w1679 hi1680 => ?_) ?_
      ·
       have hb1681 := low0 hb1445 hi1680
       refine wpo_pass rfl rfl rfl h1473 rfl ?_
       exact wpo_nil ⟨rfl, hi1680⟩
      refine yll_cons rfl (fun w1682 hi1683 => ?_) ?_
      ·
       have hb1684 := low0 hb1445 hi1683
       refine wpo_pickf (v := .bool false) rfl h1473 rfl rfl ?_
       exact wpo_nil ⟨rfl, hi1683⟩
      refine yll_cons rfl (fun w1685 hi1686 => ?_) ?_
      ·
       have hb1687 := low0 hb1445 hi1686
       refine wpo_move (v := .bool false) rfl rfl ?_
       exact wpo_nil ⟨rfl, hi1686⟩
      refine yll_cons rfl (fun w1688 hi1689 => ?_) ?_
      ·
       have hb1690 := low0 hb1445 hi1689
       refine wpo_pass rfl rfl rfl rfl rfl ?_
       exact wpo_nil ⟨rfl, hi1689⟩
      refine yll_cons rfl (fun w1691 hi1692 => ?_) ?_
      ·
       have hb1693 := low0 hb1445 hi1692
       refine wpo_pass rfl rfl rfl rfl rfl ?_
       exact wpo_nil ⟨rfl, hi1692⟩
      refine yll_cons rfl (fun w1694 hi1695 => ?_) ?_
      ·
       have hb1696 := low0 hb1445 hi1695
       refine wpo_pass rfl rfl rfl rfl rfl ?_
       exact wpo_nil ⟨rfl, hi1695⟩
      exact yll_nil
     ·
      intro w1697 hi1698
      have hb1699 := low0 hb1445 hi1698
      refine wpo_pass rfl rfl rfl rfl rfl ?_
      refine wpo_pass rfl rfl rfl rfl rfl ?_
      refine wpo_pickf (v := .bool false) rfl rfl rfl rfl ?_
      refine wpo_assign (v := .bool false) rfl rfl ?_
      exact wpo_nil (thn_n ⟨(congrArg Value.bool (by first | (simp only [h1168, h1473, h628, b0, b1, b2, b3, b4, b5, b6, b7, b8, b9]; done) | simp [h1168, h1473, h628])), hi1698⟩)
   ·
    rintro f1700 w1701 ⟨e1702, hg1703⟩
    have hb1704 := low0 hb1445 hg1703
    refine wpf_ret ?_
    refine ⟨.bool ((rightOk a && rightOk b) && l2x a b), res1 rfl e1702, ?_, hb1704⟩
    simp [rightIn, l2In_n h628]

theorem ReachIn1_c (r x : Rt) (b : Nat) (w : World) (hb : Blk w b 29 #[.int .i64 r.th, .int .i64 r.ve, .bool r.rd, .bool r.wr, .bool r.wk]) : CallsR Try.prog 57 #[.agg #[.int .i64 x.th, .int .i64 x.ve, .bool x.rd, .bool x.wr, .bool x.wk], .pointer (some ⟨b, 0, none⟩)] w (fun v w' => v = .bool (rightIn r x) ∧ w.grownBy w' none) := by
 refine calls_of_wpf (n := 7) Try.func57 rfl Try.ntmps57 rfl ?_
 have hb0 := World.grownBy.refl w none
 refine wpf_seq_region ?_
 refine wpo_box (v := .agg #[.int .i64 x.th, .int .i64 x.ve, .bool x.rd, .bool x.wr, .bool x.wk]) (cs := #[.int .i64 x.th, .int .i64 x.ve, .bool x.rd, .bool x.wr, .bool x.wk]) rfl rfl rfl ?_
 intro B1705 w1706 hN1707
 have hlB1705 := hN_ge hN1707 hb0
 have lt_b_B1705 := hN_gtl hN1707 (hb).lt
 have hb1708 := low0 hb0 hN1707.grw
 refine wpo_assign (v := .bool false) rfl rfl ?_
 refine wpo_nil ?_
 refine wpf_seq_region ?_
 have k1709 := (hb.grown0 hN1707.grw)
 refine wpo_loadn (vs := [.int .i64 r.th, .int .i64 r.ve, .bool r.rd, .bool r.wr, .bool r.wk]) rt_29 rfl rfl (k1709.rangeL 0 5 rfl) rfl ?_
 refine wpo_loadn (vs := [.int .i64 x.th, .int .i64 x.ve, .bool x.rd, .bool x.wr, .bool x.wk]) rt_29 rfl rfl (hN1707.blk.rangeL 0 5 rfl) rfl ?_
 refine wpo_call (vs := [.agg #[.int .i64 r.th, .int .i64 r.ve, .bool r.rd, .bool r.wr, .bool r.wk], .agg #[.int .i64 x.th, .int .i64 x.ve, .bool x.rd, .bool x.wr, .bool x.wk]]) gf_21 (args_cons rfl (args_cons rfl args_nil)) rfl (RightIn_c r x _) ?_
 rintro _ w1710 ⟨rfl, hg1711⟩
 have hb1712 := low0 hb1708 hg1711
 refine wpo_assign (v := .bool (rightIn r x)) rfl rfl ?_
 refine wpo_nil ?_
 refine wpf_ret ?_
 refine ⟨.bool (rightIn r x), res1 rfl rfl, ?_, hb1712⟩
 rfl

theorem IndexFunc_c (r : Rt) (b : Nat) (w : World) (hb : Blk w b 29 #[.int .i64 r.th, .int .i64 r.ve, .bool r.rd, .bool r.wr, .bool r.wk]) (xs : List Rt) (a : Option Addr) (c : Nat) (hs : SlAt w a 5 (xs.map Rt.cells)) (hn : xs.length ≤ 1048576) : CallsR Try.prog 99 #[.slice a xs.length c, .func (.func 57) #[] #[.pointer (some ⟨b, 0, none⟩)]] w (fun v w' => ∃ i : Int, v = .int .i64 i ∧ decide (0 ≤ i) = xs.any (rightIn r) ∧ w.grownBy w' none) := by
 refine calls_of_wpf (n := 19) Try.func99 rfl Try.ntmps99 rfl ?_
 have hb0 := World.grownBy.refl w none
 refine wpf_seq_region ?_
 refine wpo_assign (v := .int .i64 0) rfl rfl ?_
 refine wpo_nil ?_
 refine wpf_seq ?_
 refine wpf_seq_region ?_
 refine wpo_move (v := .slice a xs.length c) rfl rfl ?_
 refine wpo_len (by kernel_rfl) rfl rfl ?_
 refine wpo_move (v := .int .i64 0) rfl rfl ?_
 refine wpo_nil ?_
 refine wpf_block ?_
 refine wpf_loopN (fun mm f' w' => ∃ (k : Nat), mm = xs.length - k ∧ k ≤ xs.length ∧ ((xs.take k).any (rightIn r)) = false ∧ f' 8 = .int .i64 (k : Int) ∧ f' 0 = .slice a xs.length c ∧ f' 1 = .func (.func 57) #[] #[.pointer (some ⟨b, 0, none⟩)] ∧ f' 7 = .int .i64 (xs.length : Int) ∧ w.grownBy w' none ∧ Blk w' b 29 #[.int .i64 r.th, .int .i64 r.ve, .bool r.rd, .bool r.wr, .bool r.wk]) (xs.length - 0) ⟨0, rfl, (Nat.zero_le _), rfl, rfl, rfl, rfl, rfl, hb0, hb⟩ ?_
 rintro mm f1713 w1714 ⟨k, hm1716, hk, ha, e1717, e1718, e1719, e1720, hb1715, k1721⟩
 refine wpf_seq_region ?_
 refine wpo_lss (q := decide ((k : Int) < (xs.length : Int))) e1717 e1720 rfl rfl ?_
 refine wpo_nil ?_
 refine wpf_seq ?_
 refine wpf_cond rfl (fun h1722 => ?_) (fun h1722 => ?_)
 ·
  have h1723 := of_decide_eq_true h1722
  refine wpf_skip ?_
  refine thn_n ?_
  refine wpf_seq ?_
  refine wpf_block ?_
  refine wpf_seq_region ?_
  refine wpo_move (v := .int .i64 (k : Int)) e1717 rfl ?_
  refine wpo_assign (v := .int .i64 (k : Int)) rfl rfl ?_
  refine wpo_nil ?_
  refine wpf_seq_region ?_
  refine wpo_move (v := .func (.func 57) #[] #[.pointer (some ⟨b, 0, none⟩)]) e1719 rfl ?_
  refine wpo_move (v := .slice a xs.length c) e1718 rfl ?_
  refine wpo_move (v := .int .i64 (k : Int)) rfl rfl ?_
  obtain ⟨x1724, hx1725⟩ := get_lt (l := xs) (i := k) (by omega)
  obtain ⟨b1726, q1727, o1728, ha1729, ho1730, hr1731⟩ := SlAt.at hs (map_get hx1725)
  refine wpo_indexE es_27 rfl rfl ha1729 ho1730 (by omega) (by omega) rfl ?_
  refine wpo_loadn (vs := [.int .i64 x1724.th, .int .i64 x1724.ve, .bool x1724.rd, .bool x1724.wr, .bool x1724.wk]) rt_29 rfl rfl (range_sub (range_low hr1731 hb1715) 0 5 rfl) rfl ?_
  refine wpo_callv (vs := [.agg #[.int .i64 x1724.th, .int .i64 x1724.ve, .bool x1724.rd, .bool x1724.wr, .bool x1724.wk]]) (cs := [.pointer (some ⟨b, 0, none⟩)]) gf_57 rfl (args_cons rfl args_nil) rfl (ReachIn1_c r x1724 b _ k1721) ?_
  rintro _ w1732 ⟨rfl, hg1733⟩
  have hb1734 := low0 hb1715 hg1733
  refine wpo_nil ?_
  refine wpf_cond rfl (fun h1735 => ?_) (fun h1735 => ?_)
  ·
   refine wpf_seq_region ?_
   refine wpo_move (v := .int .i64 (k : Int)) rfl rfl ?_
   refine wpo_assign (v := .int .i64 (k : Int)) rfl rfl ?_
   refine wpo_nil ?_
   refine wpf_ret ?_
   refine blk_r ?_
   refine thn_r ?_
   refine thn_r ?_
   refine blk_r ?_
   refine thn_r ?_
   refine ⟨.int .i64 (k : Int), res1 rfl rfl, (k : Int), rfl, ?_, hb1734⟩
   rw [any_true_of (p := rightIn r) hx1725 h1735]; exact decide_eq_true (by omega)
  ·
   refine wpf_skip ?_
   refine blk_n ?_
   refine thn_n ?_
   refine wpf_region ?_
   refine wpo_add (c := (k : Int) + 1) e1717 rfl (by omega) (by omega) (by omega) rfl ?_
   refine wpo_move (v := .int .i64 ((k : Int) + 1)) rfl rfl ?_
   refine wpo_nil ?_
   refine thn_n ?_
   have k1736 := (k1721.grown0 hg1733)
   exact ⟨xs.length - (k + 1), by omega, (k + 1), rfl, (by omega), (take_any_succ (p := rightIn r) ha hx1725 h1735), rfl, e1718, e1719, e1720, hb1734, k1736⟩
 ·
  have h1737 := of_decide_eq_false h1722
  refine wpf_exit ?_
  refine thn_e ?_
  refine thn_e ?_
  refine blk_e ?_
  refine thn_n ?_
  refine wpf_seq_region ?_
  refine wpo_assign (v := .int .i64 (-1)) rfl rfl ?_
  refine wpo_nil ?_
  refine wpf_ret ?_
  refine ⟨.int .i64 (-1), res1 rfl rfl, (-1), rfl, ?_, hb1715⟩
  rw [any_of_take (p := rightIn r) ha (by omega)]; rfl

theorem ContainsFunc_c (r : Rt) (b : Nat) (w : World) (hb : Blk w b 29 #[.int .i64 r.th, .int .i64 r.ve, .bool r.rd, .bool r.wr, .bool r.wk]) (xs : List Rt) (a : Option Addr) (c : Nat) (hs : SlAt w a 5 (xs.map Rt.cells)) (hn : xs.length ≤ 1048576) : CallsR Try.prog 56 #[.slice a xs.length c, .func (.func 57) #[] #[.pointer (some ⟨b, 0, none⟩)]] w (fun v w' => v = .bool (xs.any (rightIn r)) ∧ w.grownBy w' none) := by
 refine calls_of_wpf (n := 9) Try.func56 rfl Try.ntmps56 rfl ?_
 have hb0 := World.grownBy.refl w none
 refine wpf_seq_region ?_
 refine wpo_assign (v := .bool false) rfl rfl ?_
 refine wpo_nil ?_
 refine wpf_seq_region ?_
 refine wpo_move (v := .slice a xs.length c) rfl rfl ?_
 refine wpo_move (v := .func (.func 57) #[] #[.pointer (some ⟨b, 0, none⟩)]) rfl rfl ?_
 refine wpo_call (vs := [.slice a xs.length c, .func (.func 57) #[] #[.pointer (some ⟨b, 0, none⟩)]]) gf_99 (args_cons rfl (args_cons rfl args_nil)) rfl (IndexFunc_c r b _ hb xs _ _ (SlAt.low hs hb0) (by omega)) ?_
 rintro _ w1738 ⟨i1740, rfl, hi1741, hg1739⟩
 have hb1742 := low0 hb0 hg1739
 refine wpo_geq (q := decide (0 ≤ i1740)) rfl rfl rfl rfl ?_
 refine wpo_assign (v := .bool (decide (0 ≤ i1740))) rfl rfl ?_
 refine wpo_nil ?_
 refine wpf_ret ?_
 refine ⟨.bool (decide (0 ≤ i1740)), res1 rfl rfl, ?_, hb1742⟩
 exact congrArg Value.bool hi1741

theorem ReachIn_c (r : Rt) (w : World) (xs : List Rt) (a : Option Addr) (c : Nat) (hs : SlAt w a 5 (xs.map Rt.cells)) (hn : xs.length ≤ 1048576) : CallsR Try.prog 17 #[.slice a xs.length c, .agg #[.int .i64 r.th, .int .i64 r.ve, .bool r.rd, .bool r.wr, .bool r.wk]] w (fun v w' => v = .bool (reachIn xs r) ∧ w.grownBy w' none) := by
 refine calls_of_wpf (n := 28) Try.func17 rfl Try.ntmps17 rfl ?_
 have hb0 := World.grownBy.refl w none
 refine wpf_seq_region ?_
 refine wpo_box (v := .agg #[.int .i64 r.th, .int .i64 r.ve, .bool r.rd, .bool r.wr, .bool r.wk]) (cs := #[.int .i64 r.th, .int .i64 r.ve, .bool r.rd, .bool r.wr, .bool r.wk]) rfl rfl rfl ?_
 intro B1743 w1744 hN1745
 have hlB1743 := hN_ge hN1745 hb0
 have hb1746 := low0 hb0 hN1745.grw
 refine wpo_assign (v := .bool false) rfl rfl ?_
 refine wpo_nil ?_
 refine wpf_seq ?_
 refine wpf_seq_region ?_
 refine wpo_loadn (vs := [.int .i64 r.th, .int .i64 r.ve, .bool r.rd, .bool r.wr, .bool r.wk]) rt_29 rfl rfl (hN1745.blk.rangeL 0 5 rfl) rfl ?_
 refine wpo_call (vs := [.agg #[.int .i64 r.th, .int .i64 r.ve, .bool r.rd, .bool r.wr, .bool r.wk]]) gf_20 (args_cons rfl args_nil) rfl (RightOk_c r _) ?_
 rintro _ w1747 ⟨rfl, hg1748⟩
 have hb1749 := low0 hb1746 hg1748
 refine wpo_not (b' := !rightOk r) rfl rfl rfl ?_
 refine wpo_nil ?_
 refine wpf_cond rfl (fun h1750 => ?_) (fun h1750 => ?_)
 ·
  have h1751 := nt_t h1750
  refine wpf_seq_region ?_
  refine wpo_assign (v := .bool false) rfl rfl ?_
  refine wpo_nil ?_
  refine wpf_ret ?_
  refine thn_r ?_
  refine ⟨.bool false, res1 rfl rfl, ?_, hb1749⟩
  simp [reachIn, h1750, h1751]
 ·
  have h1752 := nt_f h1750
  refine wpf_skip ?_
  refine thn_n ?_
  refine wpf_seq ?_
  refine wpf_seq_region ?_
  refine wpo_move (v := .slice a xs.length c) rfl rfl ?_
  refine wpo_len (by kernel_rfl) rfl rfl ?_
  refine wpo_move (v := .int .i64 0) rfl rfl ?_
  refine wpo_nil ?_
  refine wpf_block ?_
  have k1753 := (hN1745.blk.grown0 hg1748)
  refine wpf_loopN (fun mm f' w' => ∃ (k : Nat), mm = xs.length - k ∧ k ≤ xs.length ∧ ((xs.take k).all rightOk) = true ∧ f' 12 = .int .i64 (k : Int) ∧ f' 0 = .slice a xs.length c ∧ f' 3 = .pointer (some ⟨B1743, 0, none⟩) ∧ f' 10 = .slice a xs.length c ∧ f' 11 = .int .i64 (xs.length : Int) ∧ w.grownBy w' none ∧ Blk w' B1743 29 #[.int .i64 r.th, .int .i64 r.ve, .bool r.rd, .bool r.wr, .bool r.wk]) (xs.length - 0) ⟨0, rfl, (Nat.zero_le _), rfl, rfl, rfl, rfl, rfl, rfl, hb1749, k1753⟩ ?_
  rintro mm f1754 w1755 ⟨k, hm1757, hk, ha, e1758, e1759, e1760, e1761, e1762, hb1756, k1763⟩
  refine wpf_seq_region ?_
  refine wpo_lss (q := decide ((k : Int) < (xs.length : Int))) e1758 e1762 rfl rfl ?_
  refine wpo_nil ?_
  refine wpf_seq ?_
  refine wpf_cond rfl (fun h1764 => ?_) (fun h1764 => ?_)
  ·
   have h1765 := of_decide_eq_true h1764
   refine wpf_skip ?_
   refine thn_n ?_
   refine wpf_seq ?_
   refine wpf_block ?_
   refine wpf_seq_region ?_
   obtain ⟨x1766, hx1767⟩ := get_lt (l := xs) (i := k) (by omega)
   obtain ⟨b1768, q1769, o1770, ha1771, ho1772, hr1773⟩ := SlAt.at hs (map_get hx1767)
   refine wpo_indexE es_27 e1761 e1758 ha1771 ho1772 (by omega) (by omega) rfl ?_
   refine wpo_loadn (vs := [.int .i64 x1766.th, .int .i64 x1766.ve, .bool x1766.rd, .bool x1766.wr, .bool x1766.wk]) rt_29 rfl rfl (range_sub (range_low hr1773 hb1756) 0 5 rfl) rfl ?_
   refine wpo_alloc (cs := #[.int .i64 0, .int .i64 0, .bool false, .bool false, .bool false]) zt_29 rfl rfl ?_
   intro B1774 w1775 hN1776
   have hlB1774 := hN_ge hN1776 hb1756
   have lt_B1743_B1774 := hN_gtl hN1776 (k1763).lt
   have hb1777 := low0 hb1756 hN1776.grw
   refine wpo_storen (vs := [.int .i64 x1766.th, .int .i64 x1766.ve, .bool x1766.rd, .bool x1766.wr, .bool x1766.wk]) (cs' := #[.int .i64 x1766.th, .int .i64 x1766.ve, .bool x1766.rd, .bool x1766.wr, .bool x1766.wk]) rt_29 rfl rfl rfl (by simp [Value.oneCell']) hN1776.blk (Nat.le_of_ble_eq_true rfl) rfl ?_
   intro w1778 hS1779
   have hb1780 := low1 hb1777 hS1779.grw (by omega)
   refine wpo_nil ?_
   refine wpf_seq_region ?_
   refine wpo_loadn (vs := [.int .i64 x1766.th, .int .i64 x1766.ve, .bool x1766.rd, .bool x1766.wr, .bool x1766.wk]) rt_29 rfl rfl (hS1779.blk.rangeL 0 5 rfl) rfl ?_
   refine wpo_call (vs := [.agg #[.int .i64 x1766.th, .int .i64 x1766.ve, .bool x1766.rd, .bool x1766.wr, .bool x1766.wk]]) gf_20 (args_cons rfl args_nil) rfl (RightOk_c x1766 _) ?_
   rintro _ w1781 ⟨rfl, hg1782⟩
   have hb1783 := low0 hb1780 hg1782
   refine wpo_not (b' := !rightOk x1766) rfl rfl rfl ?_
   refine wpo_nil ?_
   refine wpf_cond rfl (fun h1784 => ?_) (fun h1784 => ?_)
   ·
    have h1785 := nt_t h1784
    refine wpf_seq_region ?_
    refine wpo_assign (v := .bool false) rfl rfl ?_
    refine wpo_nil ?_
    refine wpf_ret ?_
    refine blk_r ?_
    refine thn_r ?_
    refine thn_r ?_
    refine blk_r ?_
    refine thn_r ?_
    refine ⟨.bool false, res1 rfl rfl, ?_, hb1783⟩
    simp [reachIn, all_false_of (p := rightOk) hx1767 h1785]
   ·
    have h1786 := nt_f h1784
    refine wpf_skip ?_
    refine blk_n ?_
    refine thn_n ?_
    refine wpf_region ?_
    refine wpo_add (c := (k : Int) + 1) e1758 rfl (by omega) (by omega) (by omega) rfl ?_
    refine wpo_move (v := .int .i64 ((k : Int) + 1)) rfl rfl ?_
    refine wpo_nil ?_
    refine thn_n ?_
    have k1787 := (((k1763.grown0 hN1776.grw).grown hS1779.grw (some_ne (by omega))).grown0 hg1782)
    exact ⟨xs.length - (k + 1), by omega, (k + 1), rfl, (by omega), (take_all_succ (p := rightOk) ha hx1767 h1786), rfl, e1759, e1760, e1761, e1762, hb1783, k1787⟩
  ·
   have h1788 := of_decide_eq_false h1764
   refine wpf_exit ?_
   refine thn_e ?_
   refine thn_e ?_
   refine blk_e ?_
   refine thn_n ?_
   refine wpf_seq_region_mid (fun f' w' => (f' 4 = .bool ((decide (r.th = 0)) || xs.any (rightIn r))) ∧ w1755.grownBy w' none) ?_ ?_
   ·
    refine wpo_fieldAddr (o' := 0) fo_29_0 e1760 rfl rfl ?_
    refine wpo_load1 (v := .int .i64 r.th) ot_3 rfl (k1763.cell rfl) rfl ?_
    refine wpo_eql (q := decide (r.th = 0)) rfl rfl rfl rfl ?_
    refine wpo_move (v := .bool (decide (r.th = 0))) rfl rfl ?_
    rcases bcases (decide (r.th = 0)) with h1792 | h1792
    ·
     have h1793 := of_decide_eq_true h1792
     iterate 3 refine wpo_pass rfl rfl rfl h1792 rfl ?_
     refine wpo_pickt (v := .bool true) rfl h1792 rfl rfl ?_
     refine wpo_assign (v := .bool true) rfl rfl ?_
     exact wpo_nil ⟨(congrArg Value.bool (by first | (simp only [h1750, h1752, h1764, h1792, b0, b1, b2, b3, b4, b5, b6, b7, b8, b9]; done) | simp [h1750, h1752, h1764, h1792])), (World.grownBy.refl _ _)⟩
    ·
     have h1794 := of_decide_eq_false h1792
     refine wpo_run rfl rfl rfl h1792 ?_
     refine wpo_move (v := .slice a xs.length c) e1759 rfl ?_
     refine wpo_run rfl rfl rfl h1792 ?_
     refine wpo_makeFunc (vs := [.pointer (some ⟨B1743, 0, none⟩)]) (args_cons e1760 args_nil) rfl ?_
     refine wpo_run rfl rfl rfl h1792 ?_
     refine wpo_call (vs := [.slice a xs.length c, .func (.func 57) #[] #[.pointer (some ⟨B1743, 0, none⟩)]]) gf_56 (args_cons rfl (args_cons rfl args_nil)) rfl (ContainsFunc_c r B1743 _ k1763 xs _ _ (SlAt.low hs hb1756) (by omega)) ?_
     rintro _ w1795 ⟨rfl, hg1796⟩
     have hb1797 := low0 hb1756 hg1796
     refine wpo_pickf (v := .bool (xs.any (rightIn r))) rfl h1792 rfl rfl ?_
     refine wpo_assign (v := .bool (xs.any (rightIn r))) rfl rfl ?_
     exact wpo_nil ⟨(congrArg Value.bool (by first | (simp only [h1750, h1752, h1764, h1792, b0, b1, b2, b3, b4, b5, b6, b7, b8, b9]; done) | simp [h1750, h1752, h1764, h1792])), hg1796⟩
   ·
    rintro f1798 w1799 ⟨e1800, hg1801⟩
    have hb1802 := low0 hb1756 hg1801
    refine wpf_ret ?_
    refine ⟨.bool ((decide (r.th = 0)) || xs.any (rightIn r)), res1 rfl e1800, ?_, hb1802⟩
    have hall := all_of_take (p := rightOk) ha (by omega)
    simp [reachIn, hall, h1750, h1752, h1764, any_rightIn hall h1752]
    try simp [Bool.or_comm]

theorem l22In_c (r : Rt) (w : World) (xs : List Rt) (a : Option Addr) (c : Nat) (hs : SlAt w a 5 (xs.map Rt.cells)) (hn : xs.length ≤ 1048576) : CallsR Try.prog 55 #[.slice a xs.length c, .agg #[.int .i64 r.th, .int .i64 r.ve, .bool r.rd, .bool r.wr, .bool r.wk]] w (fun v w' => v = .bool (xs.any (l2In r) || decide (r.th = 0)) ∧ w.grownBy w' none) := by
 refine calls_of_wpf (n := 21) Try.func55 rfl Try.ntmps55 rfl ?_
 have hb0 := World.grownBy.refl w none
 refine wpf_seq_region ?_
 refine wpo_box (v := .agg #[.int .i64 r.th, .int .i64 r.ve, .bool r.rd, .bool r.wr, .bool r.wk]) (cs := #[.int .i64 r.th, .int .i64 r.ve, .bool r.rd, .bool r.wr, .bool r.wk]) rfl rfl rfl ?_
 intro B1803 w1804 hN1805
 have hlB1803 := hN_ge hN1805 hb0
 have hb1806 := low0 hb0 hN1805.grw
 refine wpo_assign (v := .bool false) rfl rfl ?_
 refine wpo_nil ?_
 refine wpf_seq ?_
 refine wpf_seq_region ?_
 refine wpo_assign (v := .int .i64 0) rfl rfl ?_
 refine wpo_nil ?_
 refine wpf_block ?_
 refine wpf_loopN (fun mm f' w' => ∃ (k : Nat), mm = xs.length - k ∧ k ≤ xs.length ∧ ((xs.take k).any (l2In r)) = false ∧ f' 5 = .int .i64 (k : Int) ∧ f' 0 = .slice a xs.length c ∧ f' 3 = .pointer (some ⟨B1803, 0, none⟩) ∧ w.grownBy w' none ∧ Blk w' B1803 29 #[.int .i64 r.th, .int .i64 r.ve, .bool r.rd, .bool r.wr, .bool r.wk]) (xs.length - 0) ⟨0, rfl, (Nat.zero_le _), rfl, rfl, rfl, rfl, hb1806, hN1805.blk⟩ ?_
 rintro mm f1807 w1808 ⟨k, hm1810, hk, ha, e1811, e1812, e1813, hb1809, k1814⟩
 refine wpf_seq ?_
 refine wpf_seq_region ?_
 refine wpo_move (v := .int .i64 (k : Int)) e1811 rfl ?_
 refine wpo_move (v := .slice a xs.length c) e1812 rfl ?_
 refine wpo_len (by kernel_rfl) rfl rfl ?_
 refine wpo_lss (q := decide ((k : Int) < (xs.length : Int))) rfl rfl rfl rfl ?_
 refine wpo_nil ?_
 refine wpf_cond rfl (fun h1815 => ?_) (fun h1815 => ?_)
 ·
  have h1816 := of_decide_eq_true h1815
  refine wpf_skip ?_
  refine thn_n ?_
  refine wpf_seq ?_
  refine wpf_block ?_
  refine wpf_seq ?_
  obtain ⟨x1839, hx1840⟩ := get_lt (l := xs) (i := k) (by omega)
  obtain ⟨b1841, q1842, o1843, ha1844, ho1845, hr1846⟩ := SlAt.at hs (map_get hx1840)
  refine wpf_draw (m := 5) (vals := [(12, .agg #[.int .i64 r.th, .int .i64 r.ve, .bool r.rd, .bool r.wr, .bool r.wk]), (13, .slice a xs.length c), (14, .int .i64 (k : Int)), (15, .pointer (some ⟨b1841, o1843, none⟩)), (16, .agg #[.int .i64 x1839.th, .int .i64 x1839.ve, .bool x1839.rd, .bool x1839.wr, .bool x1839.wk])]) (fun w' => w1808.grownBy w' none) mixed_ (by kernel_rfl) (grown_drew _) ?_ ?_
  ·
   refine yll_cons rfl (fun w1850 hi1851 => ?_) ?_
   ·
    have hb1852 := low0 hb1809 hi1851
    have k1853 := (k1814.grown0 hi1851)
    refine wpo_loadn (vs := [.int .i64 r.th, .int .i64 r.ve, .bool r.rd, .bool r.wr, .bool r.wk]) rt_29 e1813 rfl (k1853.rangeL 0 5 rfl) rfl ?_
    exact wpo_nil ⟨rfl, hi1851⟩
   refine yll_cons rfl (fun w1854 hi1855 => ?_) ?_
   ·
    have hb1856 := low0 hb1809 hi1855
    refine wpo_move (v := .slice a xs.length c) e1812 rfl ?_
    exact wpo_nil ⟨rfl, hi1855⟩
   refine yll_cons rfl (fun w1857 hi1858 => ?_) ?_
   ·
    have hb1859 := low0 hb1809 hi1858
    refine wpo_move (v := .int .i64 (k : Int)) e1811 rfl ?_
    exact wpo_nil ⟨rfl, hi1858⟩
   refine yll_cons rfl (fun w1860 hi1861 => ?_) ?_
   ·
    have hb1862 := low0 hb1809 hi1861
    refine wpo_indexE es_27 rfl rfl ha1844 ho1845 (by omega) (by omega) rfl ?_
    exact wpo_nil ⟨rfl, hi1861⟩
   refine yll_cons rfl (fun w1863 hi1864 => ?_) ?_
   ·
    have hb1865 := low0 hb1809 hi1864
    refine wpo_loadn (vs := [.int .i64 x1839.th, .int .i64 x1839.ve, .bool x1839.rd, .bool x1839.wr, .bool x1839.wk]) rt_29 rfl rfl (range_sub (range_low hr1846 hb1865) 0 5 rfl) rfl ?_
    exact wpo_nil ⟨rfl, hi1864⟩
   exact yll_nil
  ·
   intro w1866 hi1867
   have hb1868 := low0 hb1809 hi1867
   refine wpo_call (vs := [.agg #[.int .i64 r.th, .int .i64 r.ve, .bool r.rd, .bool r.wr, .bool r.wk], .agg #[.int .i64 x1839.th, .int .i64 x1839.ve, .bool x1839.rd, .bool x1839.wr, .bool x1839.wk]]) gf_98 (args_cons rfl (args_cons rfl args_nil)) rfl (l2In_c r x1839 _) ?_
   rintro _ w1869 ⟨rfl, hg1870⟩
   have hb1871 := low0 hb1868 hg1870
   refine wpo_nil ?_
   refine thn_n ?_
   refine wpf_cond rfl (fun h1872 => ?_) (fun h1872 => ?_)
   ·
    refine wpf_seq_region ?_
    refine wpo_assign (v := .bool true) rfl rfl ?_
    refine wpo_nil ?_
    refine wpf_ret ?_
    refine blk_r ?_
    refine thn_r ?_
    refine thn_r ?_
    refine blk_r ?_
    refine thn_r ?_
    refine ⟨.bool true, res1 rfl rfl, ?_, hb1871⟩
    simp [any_true_of (p := l2In r) hx1840 h1872]
   ·
    refine wpf_skip ?_
    refine blk_n ?_
    refine thn_n ?_
    refine wpf_region ?_
    refine wpo_move (v := .int .i64 (k : Int)) e1811 rfl ?_
    refine wpo_add (c := (k : Int) + 1) rfl rfl (by omega) (by omega) (by omega) rfl ?_
    refine wpo_assign (v := .int .i64 ((k : Int) + 1)) rfl rfl ?_
    refine wpo_nil ?_
    refine thn_n ?_
    have k1873 := ((k1814.grown0 hi1867).grown0 hg1870)
    exact ⟨xs.length - (k + 1), by omega, (k + 1), rfl, (by omega), (take_any_succ (p := l2In r) ha hx1840 h1872), rfl, e1812, e1813, hb1871, k1873⟩
 ·
  have h1874 := of_decide_eq_false h1815
  refine wpf_exit ?_
  refine thn_e ?_
  refine thn_e ?_
  refine blk_e ?_
  refine thn_n ?_
  refine wpf_seq_region ?_
  refine wpo_fieldAddr (o' := 0) fo_29_0 e1813 rfl rfl ?_
  refine wpo_load1 (v := .int .i64 r.th) ot_3 rfl (k1814.cell rfl) rfl ?_
  refine wpo_eql (q := decide (r.th = 0)) rfl rfl rfl rfl ?_
  refine wpo_assign (v := .bool (decide (r.th = 0))) rfl rfl ?_
  refine wpo_nil ?_
  refine wpf_ret ?_
  refine ⟨.bool (decide (r.th = 0)), res1 rfl rfl, ?_, hb1809⟩
  simp [any_of_take (p := l2In r) ha (by omega)]

theorem sReachIn_c (r : Rt) (w : World) (xs : List Rt) (a : Option Addr) (c : Nat) (hs : SlAt w a 5 (xs.map Rt.cells)) (hn : xs.length ≤ 1048576) : CallsR Try.prog 14 #[.slice a xs.length c, .agg #[.int .i64 r.th, .int .i64 r.ve, .bool r.rd, .bool r.wr, .bool r.wk]] w (fun v w' => v = .bool (reachIn xs r) ∧ w.grownBy w' none) := by
 refine calls_of_wpf (n := 25) Try.func14 rfl Try.ntmps14 rfl ?_
 have hb0 := World.grownBy.refl w none
 refine wpf_seq_region ?_
 refine wpo_box (v := .agg #[.int .i64 r.th, .int .i64 r.ve, .bool r.rd, .bool r.wr, .bool r.wk]) (cs := #[.int .i64 r.th, .int .i64 r.ve, .bool r.rd, .bool r.wr, .bool r.wk]) rfl rfl rfl ?_
 intro B1875 w1876 hN1877
 have hlB1875 := hN_ge hN1877 hb0
 have hb1878 := low0 hb0 hN1877.grw
 refine wpo_assign (v := .bool false) rfl rfl ?_
 refine wpo_nil ?_
 refine wpf_seq ?_
 refine wpf_seq_region ?_
 refine wpo_assign (v := .int .i64 0) rfl rfl ?_
 refine wpo_nil ?_
 refine wpf_block ?_
 refine wpf_loopN (fun mm f' w' => ∃ (k : Nat), mm = xs.length - k ∧ k ≤ xs.length ∧ ((xs.take k).all rightOk) = true ∧ f' 5 = .int .i64 (k : Int) ∧ f' 0 = .slice a xs.length c ∧ f' 3 = .pointer (some ⟨B1875, 0, none⟩) ∧ w.grownBy w' none ∧ Blk w' B1875 29 #[.int .i64 r.th, .int .i64 r.ve, .bool r.rd, .bool r.wr, .bool r.wk]) (xs.length - 0) ⟨0, rfl, (Nat.zero_le _), rfl, rfl, rfl, rfl, hb1878, hN1877.blk⟩ ?_
 rintro mm f1879 w1880 ⟨k, hm1882, hk, ha, e1883, e1884, e1885, hb1881, k1886⟩
 refine wpf_seq ?_
 refine wpf_seq_region ?_
 refine wpo_move (v := .int .i64 (k : Int)) e1883 rfl ?_
 refine wpo_move (v := .slice a xs.length c) e1884 rfl ?_
 refine wpo_len (by kernel_rfl) rfl rfl ?_
 refine wpo_lss (q := decide ((k : Int) < (xs.length : Int))) rfl rfl rfl rfl ?_
 refine wpo_nil ?_
 refine wpf_cond rfl (fun h1887 => ?_) (fun h1887 => ?_)
 ·
  have h1888 := of_decide_eq_true h1887
  refine wpf_skip ?_
  refine thn_n ?_
  refine wpf_seq ?_
  refine wpf_block ?_
  refine wpf_seq_region ?_
  refine wpo_move (v := .slice a xs.length c) e1884 rfl ?_
  refine wpo_move (v := .int .i64 (k : Int)) e1883 rfl ?_
  obtain ⟨x1889, hx1890⟩ := get_lt (l := xs) (i := k) (by omega)
  obtain ⟨b1891, q1892, o1893, ha1894, ho1895, hr1896⟩ := SlAt.at hs (map_get hx1890)
  refine wpo_indexE es_27 rfl rfl ha1894 ho1895 (by omega) (by omega) rfl ?_
  refine wpo_loadn (vs := [.int .i64 x1889.th, .int .i64 x1889.ve, .bool x1889.rd, .bool x1889.wr, .bool x1889.wk]) rt_29 rfl rfl (range_sub (range_low hr1896 hb1881) 0 5 rfl) rfl ?_
  refine wpo_call (vs := [.agg #[.int .i64 x1889.th, .int .i64 x1889.ve, .bool x1889.rd, .bool x1889.wr, .bool x1889.wk]]) gf_54 (args_cons rfl args_nil) rfl (sRightOk_c x1889 _) ?_
  rintro _ w1897 ⟨rfl, hg1898⟩
  have hb1899 := low0 hb1881 hg1898
  refine wpo_not (b' := !rightOk x1889) rfl rfl rfl ?_
  refine wpo_nil ?_
  refine wpf_cond rfl (fun h1900 => ?_) (fun h1900 => ?_)
  ·
   have h1901 := nt_t h1900
   refine wpf_seq_region ?_
   refine wpo_assign (v := .bool false) rfl rfl ?_
   refine wpo_nil ?_
   refine wpf_ret ?_
   refine blk_r ?_
   refine thn_r ?_
   refine thn_r ?_
   refine blk_r ?_
   refine thn_r ?_
   refine ⟨.bool false, res1 rfl rfl, ?_, hb1899⟩
   simp [reachIn, all_false_of (p := rightOk) hx1890 h1901]
  ·
   have h1902 := nt_f h1900
   refine wpf_skip ?_
   refine blk_n ?_
   refine thn_n ?_
   refine wpf_region ?_
   refine wpo_move (v := .int .i64 (k : Int)) e1883 rfl ?_
   refine wpo_add (c := (k : Int) + 1) rfl rfl (by omega) (by omega) (by omega) rfl ?_
   refine wpo_assign (v := .int .i64 ((k : Int) + 1)) rfl rfl ?_
   refine wpo_nil ?_
   refine thn_n ?_
   have k1903 := (k1886.grown0 hg1898)
   exact ⟨xs.length - (k + 1), by omega, (k + 1), rfl, (by omega), (take_all_succ (p := rightOk) ha hx1890 h1902), rfl, e1884, e1885, hb1899, k1903⟩
 ·
  have h1904 := of_decide_eq_false h1887
  refine wpf_exit ?_
  refine thn_e ?_
  refine thn_e ?_
  refine blk_e ?_
  refine thn_n ?_
  refine wpf_seq_region_mid (fun f' w' => (f' 4 = .bool (rightOk r && (xs.any (l2In r) || (decide (r.th = 0))))) ∧ w1880.grownBy w' none) ?_ ?_
  ·
   refine wpo_loadn (vs := [.int .i64 r.th, .int .i64 r.ve, .bool r.rd, .bool r.wr, .bool r.wk]) rt_29 e1885 rfl (k1886.rangeL 0 5 rfl) rfl ?_
   refine wpo_call (vs := [.agg #[.int .i64 r.th, .int .i64 r.ve, .bool r.rd, .bool r.wr, .bool r.wk]]) gf_54 (args_cons rfl args_nil) rfl (sRightOk_c r _) ?_
   rintro _ w1915 ⟨rfl, hg1916⟩
   have hb1917 := low0 hb1881 hg1916
   refine wpo_move (v := .bool (rightOk r)) rfl rfl ?_
   rcases bcases (rightOk r) with h1918 | h1918
   ·
    refine wpo_run rfl rfl rfl h1918 ?_
    refine wpo_move (v := .slice a xs.length c) e1884 rfl ?_
    refine wpo_run rfl rfl rfl h1918 ?_
    have k1919 := (k1886.grown0 hg1916)
    refine wpo_loadn (vs := [.int .i64 r.th, .int .i64 r.ve, .bool r.rd, .bool r.wr, .bool r.wk]) rt_29 e1885 rfl (k1919.rangeL 0 5 rfl) rfl ?_
    refine wpo_run rfl rfl rfl h1918 ?_
    refine wpo_call (vs := [.slice a xs.length c, .agg #[.int .i64 r.th, .int .i64 r.ve, .bool r.rd, .bool r.wr, .bool r.wk]]) gf_55 (args_cons rfl (args_cons rfl args_nil)) rfl (l22In_c r _ xs _ _ (SlAt.low hs hb1917) (by omega)) ?_
    rintro _ w1920 ⟨rfl, hg1921⟩
    have hb1922 := low0 hb1917 hg1921
    refine wpo_pickt (v := .bool (xs.any (l2In r) || (decide (r.th = 0)))) rfl h1918 rfl rfl ?_
    refine wpo_assign (v := .bool (xs.any (l2In r) || (decide (r.th = 0)))) rfl rfl ?_
    exact wpo_nil ⟨(congrArg Value.bool (by first | (simp only [h1887, h1918, b0, b1, b2, b3, b4, b5, b6, b7, b8, b9]; done) | simp [h1887, h1918])), (grown_trans hg1916 hg1921)⟩
   ·
    iterate 3 refine wpo_pass rfl rfl rfl h1918 rfl ?_
    refine wpo_pickf (v := .bool false) rfl h1918 rfl rfl ?_
    refine wpo_assign (v := .bool false) rfl rfl ?_
    exact wpo_nil ⟨(congrArg Value.bool (by first | (simp only [h1887, h1918, b0, b1, b2, b3, b4, b5, b6, b7, b8, b9]; done) | simp [h1887, h1918])), hg1916⟩
  ·
   rintro f1923 w1924 ⟨e1925, hg1926⟩
   have hb1927 := low0 hb1881 hg1926
   refine wpf_ret ?_
   refine ⟨.bool (rightOk r && (xs.any (l2In r) || (decide (r.th = 0)))), res1 rfl e1925, ?_, hb1927⟩
   have hall := all_of_take (p := rightOk) ha (by omega)
   simp [reachIn, hall, h1887]
   try simp [Bool.or_comm]

theorem toRight_c (r : Rt) (w : World) : CallsR Try.prog 16 #[.agg #[.int .i64 r.th, .int .i64 r.ve, .bool r.rd, .bool r.wr, .bool r.wk]] w (fun v w' => v = .agg #[.int .i64 r.th, .int .i64 r.ve, .bool r.rd, .bool r.wr, .bool r.wk] ∧ w.grownBy w' none) := by
 refine calls_of_wpf (n := 20) Try.func16 rfl Try.ntmps16 rfl ?_
 have hb0 := World.grownBy.refl w none
 refine wpf_seq_region ?_
 refine wpo_box (v := .agg #[.int .i64 r.th, .int .i64 r.ve, .bool r.rd, .bool r.wr, .bool r.wk]) (cs := #[.int .i64 r.th, .int .i64 r.ve, .bool r.rd, .bool r.wr, .bool r.wk]) rfl rfl rfl ?_
 intro B1928 w1929 hN1930
 have hlB1928 := hN_ge hN1930 hb0
 have hb1931 := low0 hb0 hN1930.grw
 refine wpo_alloc (cs := #[.int .i64 0, .int .i64 0, .bool false, .bool false, .bool false]) zt_29 rfl rfl ?_
 intro B1932 w1933 hN1934
 have hlB1932 := hN_ge hN1934 hb1931
 have lt_B1928_B1932 := hN_gtl hN1934 (hN1930.blk).lt
 have hb1935 := low0 hb1931 hN1934.grw
 refine wpo_nil ?_
 refine wpf_seq_region ?_
 refine wpo_alloc (cs := #[.int .i64 0, .int .i64 0, .bool false, .bool false, .bool false]) zt_29 rfl rfl ?_
 intro B1936 w1937 hN1938
 have hlB1936 := hN_ge hN1938 hb1935
 have k1939 := (hN1930.blk.grown0 hN1934.grw)
 have lt_B1928_B1936 := hN_gtl hN1938 (k1939).lt
 have lt_B1932_B1936 := hN_gtl hN1938 (hN1934.blk).lt
 have hb1940 := low0 hb1935 hN1938.grw
 refine wpo_nil ?_
 refine wpf_seq_region ?_
 refine wpo_fieldAddr (o' := 0) fo_24_0 rfl rfl rfl ?_
 have k1941 := (k1939.grown0 hN1938.grw)
 refine wpo_load1 (v := .int .i64 r.th) ot_3 rfl (k1941.cell rfl) rfl ?_
 refine wpo_fieldAddr (o' := 0) fo_29_0 rfl rfl rfl ?_
 refine wpo_store1 (v := .int .i64 r.th) (cs' := #[.int .i64 r.th, .int .i64 0, .bool false, .bool false, .bool false]) ot_3 rfl rfl rfl hN1938.blk (Nat.le_of_ble_eq_true rfl) rfl ?_
 intro w1942 hS1943
 have hb1944 := low1 hb1940 hS1943.grw (by omega)
 refine wpo_nil ?_
 refine wpf_seq_region ?_
 refine wpo_fieldAddr (o' := 1) fo_24_1 rfl rfl rfl ?_
 have k1945 := (k1941.grown hS1943.grw (some_ne (by omega)))
 refine wpo_load1 (v := .int .i64 r.ve) ot_3 rfl (k1945.cell rfl) rfl ?_
 refine wpo_fieldAddr (o' := 1) fo_29_1 rfl rfl rfl ?_
 refine wpo_store1 (v := .int .i64 r.ve) (cs' := #[.int .i64 r.th, .int .i64 r.ve, .bool false, .bool false, .bool false]) ot_3 rfl rfl rfl hS1943.blk (Nat.le_of_ble_eq_true rfl) rfl ?_
 intro w1946 hS1947
 have hb1948 := low1 hb1944 hS1947.grw (by omega)
 refine wpo_nil ?_
 refine wpf_seq_region ?_
 refine wpo_fieldAddr (o' := 2) fo_24_2 rfl rfl rfl ?_
 have k1949 := (k1945.grown hS1947.grw (some_ne (by omega)))
 refine wpo_load1 (v := .bool r.rd) ot_4 rfl (k1949.cell rfl) rfl ?_
 refine wpo_fieldAddr (o' := 2) fo_29_2 rfl rfl rfl ?_
 refine wpo_store1 (v := .bool r.rd) (cs' := #[.int .i64 r.th, .int .i64 r.ve, .bool r.rd, .bool false, .bool false]) ot_4 rfl rfl rfl hS1947.blk (Nat.le_of_ble_eq_true rfl) rfl ?_
 intro w1950 hS1951
 have hb1952 := low1 hb1948 hS1951.grw (by omega)
 refine wpo_nil ?_
 refine wpf_seq_region ?_
 refine wpo_fieldAddr (o' := 3) fo_24_3 rfl rfl rfl ?_
 have k1953 := (k1949.grown hS1951.grw (some_ne (by omega)))
 refine wpo_load1 (v := .bool r.wr) ot_4 rfl (k1953.cell rfl) rfl ?_
 refine wpo_fieldAddr (o' := 3) fo_29_3 rfl rfl rfl ?_
 refine wpo_store1 (v := .bool r.wr) (cs' := #[.int .i64 r.th, .int .i64 r.ve, .bool r.rd, .bool r.wr, .bool false]) ot_4 rfl rfl rfl hS1951.blk (Nat.le_of_ble_eq_true rfl) rfl ?_
 intro w1954 hS1955
 have hb1956 := low1 hb1952 hS1955.grw (by omega)
 refine wpo_nil ?_
 refine wpf_seq_region ?_
 refine wpo_fieldAddr (o' := 4) fo_24_4 rfl rfl rfl ?_
 have k1957 := (k1953.grown hS1955.grw (some_ne (by omega)))
 refine wpo_load1 (v := .bool r.wk) ot_4 rfl (k1957.cell rfl) rfl ?_
 refine wpo_fieldAddr (o' := 4) fo_29_4 rfl rfl rfl ?_
 refine wpo_store1 (v := .bool r.wk) (cs' := #[.int .i64 r.th, .int .i64 r.ve, .bool r.rd, .bool r.wr, .bool r.wk]) ot_4 rfl rfl rfl hS1955.blk (Nat.le_of_ble_eq_true rfl) rfl ?_
 intro w1958 hS1959
 have hb1960 := low1 hb1956 hS1959.grw (by omega)
 refine wpo_nil ?_
 refine wpf_seq_region ?_
 refine wpo_loadn (vs := [.int .i64 r.th, .int .i64 r.ve, .bool r.rd, .bool r.wr, .bool r.wk]) rt_29 rfl rfl (hS1959.blk.rangeL 0 5 rfl) rfl ?_
 have k1961 := ((((((hN1934.blk.grown0 hN1938.grw).grown hS1943.grw (some_ne (by omega))).grown hS1947.grw (some_ne (by omega))).grown hS1951.grw (some_ne (by omega))).grown hS1955.grw (some_ne (by omega))).grown hS1959.grw (some_ne (by omega)))
 refine wpo_storen (vs := [.int .i64 r.th, .int .i64 r.ve, .bool r.rd, .bool r.wr, .bool r.wk]) (cs' := #[.int .i64 r.th, .int .i64 r.ve, .bool r.rd, .bool r.wr, .bool r.wk]) rt_29 rfl rfl rfl (by simp [Value.oneCell']) k1961 (Nat.le_of_ble_eq_true rfl) rfl ?_
 intro w1962 hS1963
 have hb1964 := low1 hb1960 hS1963.grw (by omega)
 refine wpo_nil ?_
 refine wpf_ret ?_
 refine ⟨.agg #[.int .i64 r.th, .int .i64 r.ve, .bool r.rd, .bool r.wr, .bool r.wk], resC rfl (resCell_mk (vs := [.int .i64 r.th, .int .i64 r.ve, .bool r.rd, .bool r.wr, .bool r.wk]) rt_29 rfl rfl (hS1963.blk.rangeL 0 5 rfl)), ?_, hb1964⟩
 rfl

theorem szRightS_c (m : Int) (w : World) (xs : List Rt) (a : Option Addr) (c : Nat) (hn : xs.length ≤ 9223372036854775807) (hm : 0 ≤ m ∧ m ≤ 1048576) : CallsR Try.prog 13 #[.slice a xs.length c, .int .i64 m] w (fun v w' => ∃ n : Int, v = .int .i64 n ∧ (0 ≤ n → (xs.length : Int) + n ≤ m) ∧ -1 ≤ n ∧ n ≤ m ∧ w.grownBy w' none) := by
 refine calls_of_wpf (n := 12) Try.func13 rfl Try.ntmps13 rfl ?_
 have hb0 := World.grownBy.refl w none
 refine wpf_seq_region ?_
 refine wpo_assign (v := .int .i64 0) rfl rfl ?_
 refine wpo_nil ?_
 refine wpf_seq_region ?_
 refine wpo_move (v := .int .i64 m) rfl rfl ?_
 refine wpo_move (v := .slice a xs.length c) rfl rfl ?_
 refine wpo_len (by kernel_rfl) rfl rfl ?_
 refine wpo_sub (c := m - (xs.length : Int)) rfl rfl (by omega) (by omega) (by omega) rfl ?_
 refine wpo_assign (v := .int .i64 (m - (xs.length : Int))) rfl rfl ?_
 refine wpo_nil ?_
 refine wpf_seq ?_
 refine wpf_seq_region ?_
 refine wpo_move (v := .int .i64 (m - (xs.length : Int))) rfl rfl ?_
 refine wpo_lss (q := decide (m - (xs.length : Int) < 0)) rfl rfl rfl rfl ?_
 refine wpo_nil ?_
 refine wpf_cond rfl (fun h1965 => ?_) (fun h1965 => ?_)
 ·
  have h1966 := of_decide_eq_true h1965
  refine wpf_seq_region ?_
  refine wpo_assign (v := .int .i64 (-1)) rfl rfl ?_
  refine wpo_nil ?_
  refine wpf_ret ?_
  refine thn_r ?_
  refine ⟨.int .i64 (-1), res1 rfl rfl, (-1), rfl, by omega, by omega, by omega, hb0⟩
 ·
  have h1967 := of_decide_eq_false h1965
  refine wpf_skip ?_
  refine thn_n ?_
  refine wpf_seq_region ?_
  refine wpo_move (v := .int .i64 (m - (xs.length : Int))) rfl rfl ?_
  refine wpo_assign (v := .int .i64 (m - (xs.length : Int))) rfl rfl ?_
  refine wpo_nil ?_
  refine wpf_ret ?_
  refine ⟨.int .i64 (m - (xs.length : Int)), res1 rfl rfl, (m - (xs.length : Int)), rfl, by omega, by omega, by omega, hb0⟩

theorem toRightS_c (w : World) (xs : List Rt) (a : Option Addr) (c : Nat) (hs : SlAt w a 5 (xs.map Rt.cells)) (hn : xs.length ≤ 1048576) : CallsR Try.prog 15 #[.slice a xs.length c] w (fun v w' => ∃ B : Nat, v = .slice (some ⟨B, 0, none⟩) xs.length xs.length ∧ w.heap.size ≤ B ∧ Blk w' B 29 (xs.flatMap Rt.cells).toArray ∧ w.grownBy w' none) := by
 refine calls_of_wpf (n := 23) Try.func15 rfl Try.ntmps15 rfl ?_
 have hb0 := World.grownBy.refl w none
 refine wpf_seq_region ?_
 refine wpo_assign (v := .slice none 0 0) rfl rfl ?_
 refine wpo_nil ?_
 refine wpf_seq_region ?_
 refine wpo_move (v := .slice a xs.length c) rfl rfl ?_
 refine wpo_len (by kernel_rfl) rfl rfl ?_
 refine wpo_make (g := Rt.cells) (z := Rt.zero) (c := xs.length) mk_27 rfl wide_rt (by omega) rfl rfl (by omega) (by omega) rfl ?_
 intro B1968 w1969 hN1970
 have hlB1968 := hN_ge hN1970 hb0
 have hb1971 := low0 hb0 hN1970.grw
 refine wpo_assign (v := .slice (some ⟨B1968, 0, none⟩) xs.length xs.length) rfl rfl ?_
 refine wpo_nil ?_
 refine wpf_seq ?_
 refine wpf_seq_region ?_
 refine wpo_assign (v := .int .i64 0) rfl rfl ?_
 refine wpo_nil ?_
 refine wpf_block ?_
 refine wpf_loopN (fun mm f' w' => ∃ (k : Nat), mm = xs.length - k ∧ k ≤ xs.length ∧ f' 4 = .int .i64 (k : Int) ∧ f' 0 = .slice a xs.length c ∧ f' 2 = .slice none 0 0 ∧ f' 3 = .slice (some ⟨B1968, 0, none⟩) xs.length xs.length ∧ w.grownBy w' none ∧ Blk w' B1968 29 ((fill xs Rt.zero k).flatMap Rt.cells).toArray) (xs.length - 0) ⟨0, rfl, (Nat.zero_le _), rfl, rfl, rfl, rfl, hb1971, (by rw [fill_zero]; exact hN1970.blk)⟩ ?_
 rintro mm f1972 w1973 ⟨k, hm1975, hk, e1976, e1977, e1978, e1979, hb1974, k1980⟩
 refine wpf_seq ?_
 refine wpf_seq_region ?_
 refine wpo_move (v := .int .i64 (k : Int)) e1976 rfl ?_
 refine wpo_move (v := .slice a xs.length c) e1977 rfl ?_
 refine wpo_len (by kernel_rfl) rfl rfl ?_
 refine wpo_lss (q := decide ((k : Int) < (xs.length : Int))) rfl rfl rfl rfl ?_
 refine wpo_nil ?_
 refine wpf_cond rfl (fun h1981 => ?_) (fun h1981 => ?_)
 ·
  have h1982 := of_decide_eq_true h1981
  refine wpf_skip ?_
  refine thn_n ?_
  refine wpf_seq ?_
  refine wpf_block ?_
  refine wpf_region ?_
  refine wpo_move (v := .slice (some ⟨B1968, 0, none⟩) xs.length xs.length) e1979 rfl ?_
  refine wpo_move (v := .int .i64 (k : Int)) e1976 rfl ?_
  refine wpo_move (v := .slice a xs.length c) e1977 rfl ?_
  refine wpo_move (v := .int .i64 (k : Int)) e1976 rfl ?_
  obtain ⟨x1983, hx1984⟩ := get_lt (l := xs) (i := k) (by omega)
  obtain ⟨b1985, q1986, o1987, ha1988, ho1989, hr1990⟩ := SlAt.at hs (map_get hx1984)
  refine wpo_indexE es_22 rfl rfl ha1988 ho1989 (by omega) (by omega) rfl ?_
  refine wpo_loadn (vs := [.int .i64 x1983.th, .int .i64 x1983.ve, .bool x1983.rd, .bool x1983.wr, .bool x1983.wk]) rt_24 rfl rfl (range_sub (range_low hr1990 hb1974) 0 5 rfl) rfl ?_
  refine wpo_call (vs := [.agg #[.int .i64 x1983.th, .int .i64 x1983.ve, .bool x1983.rd, .bool x1983.wr, .bool x1983.wk]]) gf_16 (args_cons rfl args_nil) rfl (toRight_c x1983 _) ?_
  rintro _ w1991 ⟨rfl, hg1992⟩
  have hb1993 := low0 hb1974 hg1992
  refine wpo_indexAddr (o' := k * 5) es_27 rfl rfl (by omega) (by omega) (by omega) rfl ?_
  have k1994 := (k1980.grown0 hg1992)
  refine wpo_storen (vs := [.int .i64 x1983.th, .int .i64 x1983.ve, .bool x1983.rd, .bool x1983.wr, .bool x1983.wk]) (cs' := (((fill xs Rt.zero k).set k x1983).flatMap Rt.cells).toArray) rt_29 rfl rfl rfl (by simp [Value.oneCell']) k1994 (rows_le wide_rt (by rw [fill_len hk]; omega)) (rows_setA wide_rt (by rw [fill_len hk]; omega) x1983) ?_
  intro w1995 hS1996
  have hb1997 := low1 hb1993 hS1996.grw (by omega)
  refine wpo_nil ?_
  refine blk_n ?_
  refine thn_n ?_
  refine wpf_region ?_
  refine wpo_move (v := .int .i64 (k : Int)) e1976 rfl ?_
  refine wpo_add (c := (k : Int) + 1) rfl rfl (by omega) (by omega) (by omega) rfl ?_
  refine wpo_assign (v := .int .i64 ((k : Int) + 1)) rfl rfl ?_
  refine wpo_nil ?_
  refine thn_n ?_
  exact ⟨xs.length - (k + 1), by omega, (k + 1), rfl, (by omega), rfl, e1977, e1978, e1979, hb1997, (by have kk := hS1996.blk; rw [fill_set hx1984] at kk; exact kk)⟩
 ·
  have h1998 := of_decide_eq_false h1981
  refine wpf_exit ?_
  refine thn_e ?_
  refine thn_e ?_
  refine blk_e ?_
  refine thn_n ?_
  refine wpf_seq_region ?_
  refine wpo_move (v := .slice (some ⟨B1968, 0, none⟩) xs.length xs.length) e1979 rfl ?_
  refine wpo_assign (v := .slice (some ⟨B1968, 0, none⟩) xs.length xs.length) rfl rfl ?_
  refine wpo_nil ?_
  refine wpf_ret ?_
  refine ⟨.slice (some ⟨B1968, 0, none⟩) xs.length xs.length, res1 rfl rfl, B1968, rfl, hlB1968, ?_, hb1974⟩
  have kk := k1980
  rw [fill_all (by omega)] at kk
  exact kk

theorem eqRight_c (a b : Rt) (w : World) : CallsR Try.prog 58 #[.agg #[.int .i64 a.th, .int .i64 a.ve, .bool a.rd, .bool a.wr, .bool a.wk], .agg #[.int .i64 b.th, .int .i64 b.ve, .bool b.rd, .bool b.wr, .bool b.wk]] w (fun v w' => v = .bool (decide (a = b)) ∧ w.grownBy w' none) := by
 refine calls_of_wpf (n := 30) Try.func58 rfl Try.ntmps58 rfl ?_
 have hb0 := World.grownBy.refl w none
 refine wpf_seq_region ?_
 refine wpo_box (v := .agg #[.int .i64 a.th, .int .i64 a.ve, .bool a.rd, .bool a.wr, .bool a.wk]) (cs := #[.int .i64 a.th, .int .i64 a.ve, .bool a.rd, .bool a.wr, .bool a.wk]) rfl rfl rfl ?_
 intro B1999 w2000 hN2001
 have hlB1999 := hN_ge hN2001 hb0
 have hb2002 := low0 hb0 hN2001.grw
 refine wpo_box (v := .agg #[.int .i64 b.th, .int .i64 b.ve, .bool b.rd, .bool b.wr, .bool b.wk]) (cs := #[.int .i64 b.th, .int .i64 b.ve, .bool b.rd, .bool b.wr, .bool b.wk]) rfl rfl rfl ?_
 intro B2003 w2004 hN2005
 have hlB2003 := hN_ge hN2005 hb2002
 have lt_B1999_B2003 := hN_gtl hN2005 (hN2001.blk).lt
 have hb2006 := low0 hb2002 hN2005.grw
 refine wpo_assign (v := .bool false) rfl rfl ?_
 refine wpo_nil ?_
 refine wpf_seq ?_
 refine wpf_seq_region ?_
 refine wpo_fieldAddr (o' := 0) fo_29_0 rfl rfl rfl ?_
 have k2007 := (hN2001.blk.grown0 hN2005.grw)
 refine wpo_load1 (v := .int .i64 a.th) ot_3 rfl (k2007.cell rfl) rfl ?_
 refine wpo_fieldAddr (o' := 0) fo_29_0 rfl rfl rfl ?_
 refine wpo_load1 (v := .int .i64 b.th) ot_3 rfl (hN2005.blk.cell rfl) rfl ?_
 refine wpo_neq (q := !(decide (a.th = b.th))) rfl rfl rfl rfl ?_
 refine wpo_nil ?_
 refine wpf_cond rfl (fun h2008 => ?_) (fun h2008 => ?_)
 ·
  have h2009 := nt_t h2008
  have h2010 := of_decide_eq_false h2009
  refine wpf_seq_region ?_
  refine wpo_assign (v := .bool false) rfl rfl ?_
  refine wpo_nil ?_
  refine wpf_ret ?_
  refine thn_r ?_
  refine ⟨.bool false, res1 rfl rfl, ?_, hb2006⟩
  obtain ⟨a1, a2, a3, a4, a5⟩ := a
  obtain ⟨b1, b2, b3, b4, b5⟩ := b
  simp_all
 ·
  have h2011 := nt_f h2008
  have h2012 := of_decide_eq_true h2011
  refine wpf_skip ?_
  refine thn_n ?_
  refine wpf_seq ?_
  refine wpf_seq_region ?_
  refine wpo_fieldAddr (o' := 1) fo_29_1 rfl rfl rfl ?_
  refine wpo_load1 (v := .int .i64 a.ve) ot_3 rfl (k2007.cell rfl) rfl ?_
  refine wpo_fieldAddr (o' := 1) fo_29_1 rfl rfl rfl ?_
  refine wpo_load1 (v := .int .i64 b.ve) ot_3 rfl (hN2005.blk.cell rfl) rfl ?_
  refine wpo_neq (q := !(decide (a.ve = b.ve))) rfl rfl rfl rfl ?_
  refine wpo_nil ?_
  refine wpf_cond rfl (fun h2013 => ?_) (fun h2013 => ?_)
  ·
   have h2014 := nt_t h2013
   have h2015 := of_decide_eq_false h2014
   refine wpf_seq_region ?_
   refine wpo_assign (v := .bool false) rfl rfl ?_
   refine wpo_nil ?_
   refine wpf_ret ?_
   refine thn_r ?_
   refine ⟨.bool false, res1 rfl rfl, ?_, hb2006⟩
   obtain ⟨a1, a2, a3, a4, a5⟩ := a
   obtain ⟨b1, b2, b3, b4, b5⟩ := b
   simp_all
  ·
   have h2016 := nt_f h2013
   have h2017 := of_decide_eq_true h2016
   refine wpf_skip ?_
   refine thn_n ?_
   refine wpf_seq ?_
   refine wpf_seq_region ?_
   refine wpo_fieldAddr (o' := 2) fo_29_2 rfl rfl rfl ?_
   refine wpo_load1 (v := .bool a.rd) ot_4 rfl (k2007.cell rfl) rfl ?_
   refine wpo_fieldAddr (o' := 2) fo_29_2 rfl rfl rfl ?_
   refine wpo_load1 (v := .bool b.rd) ot_4 rfl (hN2005.blk.cell rfl) rfl ?_
   refine wpo_neqb (q := !(decide (a.rd = b.rd))) (by kernel_rfl) rfl rfl rfl rfl ?_
   refine wpo_nil ?_
   refine wpf_cond rfl (fun h2018 => ?_) (fun h2018 => ?_)
   ·
    have h2019 := nt_t h2018
    have h2020 := of_decide_eq_false h2019
    refine wpf_seq_region ?_
    refine wpo_assign (v := .bool false) rfl rfl ?_
    refine wpo_nil ?_
    refine wpf_ret ?_
    refine thn_r ?_
    refine ⟨.bool false, res1 rfl rfl, ?_, hb2006⟩
    obtain ⟨a1, a2, a3, a4, a5⟩ := a
    obtain ⟨b1, b2, b3, b4, b5⟩ := b
    simp_all
   ·
    have h2021 := nt_f h2018
    have h2022 := of_decide_eq_true h2021
    refine wpf_skip ?_
    refine thn_n ?_
    refine wpf_seq ?_
    refine wpf_seq_region ?_
    refine wpo_fieldAddr (o' := 3) fo_29_3 rfl rfl rfl ?_
    refine wpo_load1 (v := .bool a.wr) ot_4 rfl (k2007.cell rfl) rfl ?_
    refine wpo_fieldAddr (o' := 3) fo_29_3 rfl rfl rfl ?_
    refine wpo_load1 (v := .bool b.wr) ot_4 rfl (hN2005.blk.cell rfl) rfl ?_
    refine wpo_neqb (q := !(decide (a.wr = b.wr))) (by kernel_rfl) rfl rfl rfl rfl ?_
    refine wpo_nil ?_
    refine wpf_cond rfl (fun h2023 => ?_) (fun h2023 => ?_)
    ·
     have h2024 := nt_t h2023
     have h2025 := of_decide_eq_false h2024
     refine wpf_seq_region ?_
     refine wpo_assign (v := .bool false) rfl rfl ?_
     refine wpo_nil ?_
     refine wpf_ret ?_
     refine thn_r ?_
     refine ⟨.bool false, res1 rfl rfl, ?_, hb2006⟩
     obtain ⟨a1, a2, a3, a4, a5⟩ := a
     obtain ⟨b1, b2, b3, b4, b5⟩ := b
     simp_all
    ·
     have h2026 := nt_f h2023
     have h2027 := of_decide_eq_true h2026
     refine wpf_skip ?_
     refine thn_n ?_
     refine wpf_seq ?_
     refine wpf_seq_region ?_
     refine wpo_fieldAddr (o' := 4) fo_29_4 rfl rfl rfl ?_
     refine wpo_load1 (v := .bool a.wk) ot_4 rfl (k2007.cell rfl) rfl ?_
     refine wpo_fieldAddr (o' := 4) fo_29_4 rfl rfl rfl ?_
     refine wpo_load1 (v := .bool b.wk) ot_4 rfl (hN2005.blk.cell rfl) rfl ?_
     refine wpo_neqb (q := !(decide (a.wk = b.wk))) (by kernel_rfl) rfl rfl rfl rfl ?_
     refine wpo_nil ?_
     refine wpf_cond rfl (fun h2028 => ?_) (fun h2028 => ?_)
     ·
      have h2029 := nt_t h2028
      have h2030 := of_decide_eq_false h2029
      refine wpf_seq_region ?_
      refine wpo_assign (v := .bool false) rfl rfl ?_
      refine wpo_nil ?_
      refine wpf_ret ?_
      refine thn_r ?_
      refine ⟨.bool false, res1 rfl rfl, ?_, hb2006⟩
      obtain ⟨a1, a2, a3, a4, a5⟩ := a
      obtain ⟨b1, b2, b3, b4, b5⟩ := b
      simp_all
     ·
      have h2031 := nt_f h2028
      have h2032 := of_decide_eq_true h2031
      refine wpf_skip ?_
      refine thn_n ?_
      refine wpf_seq_region ?_
      refine wpo_assign (v := .bool true) rfl rfl ?_
      refine wpo_nil ?_
      refine wpf_ret ?_
      refine ⟨.bool true, res1 rfl rfl, ?_, hb2006⟩
      obtain ⟨a1, a2, a3, a4, a5⟩ := a
      obtain ⟨b1, b2, b3, b4, b5⟩ := b
      simp_all

theorem eqRightS_c (w : World) (xs ys : List Rt) (a b : Option Addr) (c e : Nat) (hs : SlAt w a 5 (xs.map Rt.cells)) (ht : SlAt w b 5 (ys.map Rt.cells)) (hn : xs.length ≤ 1048576) (hm : ys.length ≤ 1048576) : CallsR Try.prog 18 #[.slice a xs.length c, .slice b ys.length e] w (fun v w' => v = .bool (decide (xs = ys)) ∧ w.grownBy w' none) := by
 refine calls_of_wpf (n := 27) Try.func18 rfl Try.ntmps18 rfl ?_
 have hb0 := World.grownBy.refl w none
 refine wpf_seq_region ?_
 refine wpo_assign (v := .bool false) rfl rfl ?_
 refine wpo_nil ?_
 refine wpf_seq ?_
 refine wpf_seq_region ?_
 refine wpo_move (v := .slice a xs.length c) rfl rfl ?_
 refine wpo_len (by kernel_rfl) rfl rfl ?_
 refine wpo_move (v := .slice b ys.length e) rfl rfl ?_
 refine wpo_len (by kernel_rfl) rfl rfl ?_
 refine wpo_neq (q := !(decide ((xs.length : Int) = (ys.length : Int)))) rfl rfl rfl rfl ?_
 refine wpo_nil ?_
 refine wpf_cond rfl (fun h2033 => ?_) (fun h2033 => ?_)
 ·
  have h2034 := nt_t h2033
  have h2035 := of_decide_eq_false h2034
  refine wpf_seq_region ?_
  refine wpo_assign (v := .bool false) rfl rfl ?_
  refine wpo_nil ?_
  refine wpf_ret ?_
  refine thn_r ?_
  refine ⟨.bool false, res1 rfl rfl, ?_, hb0⟩
  exact congrArg Value.bool (decide_eq_false (fun h => by have := congrArg List.length h; omega)).symm
 ·
  have h2036 := nt_f h2033
  have h2037 := of_decide_eq_true h2036
  refine wpf_skip ?_
  refine thn_n ?_
  refine wpf_seq ?_
  refine wpf_seq_region ?_
  refine wpo_assign (v := .int .i64 0) rfl rfl ?_
  refine wpo_nil ?_
  refine wpf_block ?_
  refine wpf_loopN (fun mm f' w' => ∃ (k : Nat), mm = xs.length - k ∧ k ≤ xs.length ∧ xs.take k = ys.take k ∧ f' 5 = .int .i64 (k : Int) ∧ f' 0 = .slice a xs.length c ∧ f' 1 = .slice b ys.length e ∧ w.grownBy w' none) (xs.length - 0) ⟨0, rfl, (Nat.zero_le _), rfl, rfl, rfl, rfl, hb0⟩ ?_
  rintro mm f2038 w2039 ⟨k, hm2041, hk, ha, e2042, e2043, e2044, hb2040⟩
  refine wpf_seq ?_
  refine wpf_seq_region ?_
  refine wpo_move (v := .int .i64 (k : Int)) e2042 rfl ?_
  refine wpo_move (v := .slice a xs.length c) e2043 rfl ?_
  refine wpo_len (by kernel_rfl) rfl rfl ?_
  refine wpo_lss (q := decide ((k : Int) < (xs.length : Int))) rfl rfl rfl rfl ?_
  refine wpo_nil ?_
  refine wpf_cond rfl (fun h2045 => ?_) (fun h2045 => ?_)
  ·
   have h2046 := of_decide_eq_true h2045
   refine wpf_skip ?_
   refine thn_n ?_
   refine wpf_seq ?_
   refine wpf_block ?_
   refine wpf_seq ?_
   obtain ⟨x2085, hx2086⟩ := get_lt (l := xs) (i := k) (by omega)
   obtain ⟨b2087, q2088, o2089, ha2090, ho2091, hr2092⟩ := SlAt.at hs (map_get hx2086)
   obtain ⟨x2093, hx2094⟩ := get_lt (l := ys) (i := k) (by omega)
   obtain ⟨b2095, q2096, o2097, ha2098, ho2099, hr2100⟩ := SlAt.at ht (map_get hx2094)
   refine wpf_draw (m := 8) (vals := [(17, .slice a xs.length c), (18, .int .i64 (k : Int)), (19, .pointer (some ⟨b2087, o2089, none⟩)), (20, .agg #[.int .i64 x2085.th, .int .i64 x2085.ve, .bool x2085.rd, .bool x2085.wr, .bool x2085.wk]), (21, .slice b ys.length e), (22, .int .i64 (k : Int)), (23, .pointer (some ⟨b2095, o2097, none⟩)), (24, .agg #[.int .i64 x2093.th, .int .i64 x2093.ve, .bool x2093.rd, .bool x2093.wr, .bool x2093.wk])]) (fun w' => w2039.grownBy w' none) mixed_ (by kernel_rfl) (grown_drew _) ?_ ?_
   ·
    refine yll_cons rfl (fun w2104 hi2105 => ?_) ?_
    ·
     have hb2106 := low0 hb2040 hi2105
     refine wpo_move (v := .slice a xs.length c) e2043 rfl ?_
     exact wpo_nil ⟨rfl, hi2105⟩
    refine yll_cons rfl (fun w2107 hi2108 => ?_) ?_
    ·
     have hb2109 := low0 hb2040 hi2108
     refine wpo_move (v := .int .i64 (k : Int)) e2042 rfl ?_
     exact wpo_nil ⟨rfl, hi2108⟩
    refine yll_cons rfl (fun w2110 hi2111 => ?_) ?_
    ·
     have hb2112 := low0 hb2040 hi2111
     refine wpo_indexE es_27 rfl rfl ha2090 ho2091 (by omega) (by omega) rfl ?_
     exact wpo_nil ⟨rfl, hi2111⟩
    refine yll_cons rfl (fun w2113 hi2114 => ?_) ?_
    ·
     have hb2115 := low0 hb2040 hi2114
     refine wpo_loadn (vs := [.int .i64 x2085.th, .int .i64 x2085.ve, .bool x2085.rd, .bool x2085.wr, .bool x2085.wk]) rt_29 rfl rfl (range_sub (range_low hr2092 hb2115) 0 5 rfl) rfl ?_
     exact wpo_nil ⟨rfl, hi2114⟩
    refine yll_cons rfl (fun w2116 hi2117 => ?_) ?_
    ·
     have hb2118 := low0 hb2040 hi2117
     refine wpo_move (v := .slice b ys.length e) e2044 rfl ?_
     exact wpo_nil ⟨rfl, hi2117⟩
    refine yll_cons rfl (fun w2119 hi2120 => ?_) ?_
    ·
     have hb2121 := low0 hb2040 hi2120
     refine wpo_move (v := .int .i64 (k : Int)) e2042 rfl ?_
     exact wpo_nil ⟨rfl, hi2120⟩
    refine yll_cons rfl (fun w2122 hi2123 => ?_) ?_
    ·
     have hb2124 := low0 hb2040 hi2123
     refine wpo_indexE es_27 rfl rfl ha2098 ho2099 (by omega) (by omega) rfl ?_
     exact wpo_nil ⟨rfl, hi2123⟩
    refine yll_cons rfl (fun w2125 hi2126 => ?_) ?_
    ·
     have hb2127 := low0 hb2040 hi2126
     refine wpo_loadn (vs := [.int .i64 x2093.th, .int .i64 x2093.ve, .bool x2093.rd, .bool x2093.wr, .bool x2093.wk]) rt_29 rfl rfl (range_sub (range_low hr2100 hb2127) 0 5 rfl) rfl ?_
     exact wpo_nil ⟨rfl, hi2126⟩
    exact yll_nil
   ·
    intro w2128 hi2129
    have hb2130 := low0 hb2040 hi2129
    refine wpo_call (vs := [.agg #[.int .i64 x2085.th, .int .i64 x2085.ve, .bool x2085.rd, .bool x2085.wr, .bool x2085.wk], .agg #[.int .i64 x2093.th, .int .i64 x2093.ve, .bool x2093.rd, .bool x2093.wr, .bool x2093.wk]]) gf_58 (args_cons rfl (args_cons rfl args_nil)) rfl (eqRight_c x2085 x2093 _) ?_
    rintro _ w2131 ⟨rfl, hg2132⟩
    have hb2133 := low0 hb2130 hg2132
    refine wpo_not (b' := !(decide (x2085 = x2093))) rfl rfl rfl ?_
    refine wpo_nil ?_
    refine thn_n ?_
    refine wpf_cond rfl (fun h2134 => ?_) (fun h2134 => ?_)
    ·
     have h2135 := nt_t h2134
     have h2136 := of_decide_eq_false h2135
     refine wpf_seq_region ?_
     refine wpo_assign (v := .bool false) rfl rfl ?_
     refine wpo_nil ?_
     refine wpf_ret ?_
     refine blk_r ?_
     refine thn_r ?_
     refine thn_r ?_
     refine blk_r ?_
     refine thn_r ?_
     refine ⟨.bool false, res1 rfl rfl, ?_, hb2133⟩
     exact congrArg Value.bool (decide_eq_false (ne_of_at hx2086 hx2094 (of_decide_eq_false h2135))).symm
    ·
     have h2137 := nt_f h2134
     have h2138 := of_decide_eq_true h2137
     refine wpf_skip ?_
     refine blk_n ?_
     refine thn_n ?_
     refine wpf_region ?_
     refine wpo_move (v := .int .i64 (k : Int)) e2042 rfl ?_
     refine wpo_add (c := (k : Int) + 1) rfl rfl (by omega) (by omega) (by omega) rfl ?_
     refine wpo_assign (v := .int .i64 ((k : Int) + 1)) rfl rfl ?_
     refine wpo_nil ?_
     refine thn_n ?_
     exact ⟨xs.length - (k + 1), by omega, (k + 1), rfl, (by omega), (take_eq_succ ha hx2086 hx2094 (of_decide_eq_true h2137)), rfl, e2043, e2044, hb2133⟩
  ·
   have h2139 := of_decide_eq_false h2045
   refine wpf_exit ?_
   refine thn_e ?_
   refine thn_e ?_
   refine blk_e ?_
   refine thn_n ?_
   refine wpf_seq_region ?_
   refine wpo_assign (v := .bool true) rfl rfl ?_
   refine wpo_nil ?_
   refine wpf_ret ?_
   refine ⟨.bool true, res1 rfl rfl, ?_, hb2040⟩
   exact congrArg Value.bool (decide_eq_true (eq_of_take ha (by omega) (by omega))).symm

theorem law_FnExactReachIn (r : Rt) (w : World) (xs : List Rt) (a : Option Addr) (c : Nat) (hs : SlAt w a 5 (xs.map Rt.cells)) (hn : xs.length ≤ 9223372036854775807) : CallsR Try.prog 3 #[.slice a xs.length c, .agg #[.int .i64 r.th, .int .i64 r.ve, .bool r.rd, .bool r.wr, .bool r.wk]] w (fun v w' => v = .bool true ∧ w.grownBy w' none) := by
 refine calls_of_wpf (n := 33) Try.func3 rfl Try.ntmps3 rfl ?_
 have hb0 := World.grownBy.refl w none
 refine wpf_seq_region ?_
 refine wpo_box (v := .agg #[.int .i64 r.th, .int .i64 r.ve, .bool r.rd, .bool r.wr, .bool r.wk]) (cs := #[.int .i64 r.th, .int .i64 r.ve, .bool r.rd, .bool r.wr, .bool r.wk]) rfl rfl rfl ?_
 intro B2140 w2141 hN2142
 have hlB2140 := hN_ge hN2142 hb0
 have hb2143 := low0 hb0 hN2142.grw
 refine wpo_assign (v := .bool false) rfl rfl ?_
 refine wpo_nil ?_
 refine wpf_seq_region ?_
 refine wpo_assign (v := .int .i64 1048576) rfl rfl ?_
 refine wpo_nil ?_
 refine wpf_seq_region ?_
 refine wpo_move (v := .slice a xs.length c) rfl rfl ?_
 refine wpo_move (v := .int .i64 1048576) rfl rfl ?_
 refine wpo_call (vs := [.slice a xs.length c, .int .i64 1048576]) gf_13 (args_cons rfl (args_cons rfl args_nil)) rfl (szRightS_c 1048576 _ xs _ _ (by omega) (by omega)) ?_
 rintro _ w2144 ⟨n2146, rfl, hn2147, hn2148, hn2149, hg2145⟩
 have hb2150 := low0 hb2143 hg2145
 refine wpo_assign (v := .int .i64 n2146) rfl rfl ?_
 refine wpo_nil ?_
 refine wpf_seq ?_
 refine wpf_seq_region ?_
 refine wpo_move (v := .int .i64 n2146) rfl rfl ?_
 refine wpo_lss (q := decide (n2146 < 0)) rfl rfl rfl rfl ?_
 refine wpo_nil ?_
 refine wpf_cond rfl (fun h2151 => ?_) (fun h2151 => ?_)
 ·
  have h2152 := of_decide_eq_true h2151
  refine wpf_seq_region ?_
  refine wpo_assign (v := .bool true) rfl rfl ?_
  refine wpo_nil ?_
  refine wpf_ret ?_
  refine thn_r ?_
  refine ⟨.bool true, res1 rfl rfl, ?_, hb2150⟩
  rfl
 ·
  have h2153 := of_decide_eq_false h2151
  refine wpf_skip ?_
  refine thn_n ?_
  refine wpf_seq ?_
  refine wpf_drawI (m := 3) [[], [0], [], [0, 1, 2], [0, 1, 2, 3], [0, 1, 2, 3, 4]] (fun S F w' => ∃ (B2200 : Nat), w2144.grownBy w' none ∧ F 0 = .slice a xs.length c ∧ F 3 = .pointer (some ⟨B2140, 0, none⟩) ∧ F 4 = .bool false ∧ (S 0 = true → F 14 = .slice a xs.length c) ∧ (S 1 = true → F 15 = .slice (some ⟨B2200, 0, none⟩) xs.length xs.length ∧ w.heap.size ≤ B2200 ∧ Blk w' B2200 29 (xs.flatMap Rt.cells).toArray ∧ B2140 < B2200 ∧ w2144.heap.size ≤ B2200) ∧ (S 2 = true → F 16 = .agg #[.int .i64 r.th, .int .i64 r.ve, .bool r.rd, .bool r.wr, .bool r.wk])) mixed_ (by kernel_rfl) ⟨0, grown_drew _, rfl, rfl, rfl, fun h => not_begun h, fun h => not_begun h, fun h => not_begun h⟩ ?_ ?_
  ·
   refine preL_cons (fun S F w2207 hS hbef hcl hI => ?_) ?_
   ·
    obtain ⟨B2200, hi2208, e2209, e2210, e2211, c_0, c_1, c_2⟩ := hI
    have hb2212 := low0 hb2150 hi2208
    refine wpo_move (v := .slice a xs.length c) e2209 rfl ?_
    exact wpo_nil ⟨B2200, hi2208, e2209, e2210, e2211, fun _ => rfl, fun h => undone 1 hS hcl rfl h, c_2⟩
   refine preL_cons (fun S F w2213 hS hbef hcl hI => ?_) ?_
   ·
    obtain ⟨B2200, hi2214, e2215, e2216, e2217, c_0, c_1, c_2⟩ := hI
    have hb2218 := low0 hb2150 hi2214
    obtain e2219 := c_0 (ready_of 0 hbef rfl)
    have k2220 := ((hN2142.blk.grown0 hg2145).grown0 hi2214)
    refine wpo_call (vs := [.slice a xs.length c]) gf_15 (args_cons e2219 args_nil) rfl (toRightS_c _ xs _ _ (SlAt.low hs hb2218) (by omega)) ?_
    rintro _ w2225 ⟨B2221, rfl, hge2222, k2223, hg2224⟩
    have hb2226 := low0 hb2218 hg2224
    have hlB2221 := Nat.le_trans hb2218.size hge2222
    have lt_B2140_B2221 := Nat.lt_of_lt_of_le (k2220).lt hge2222
    exact wpo_nil ⟨B2221, (low0 hi2214 hg2224), e2215, e2216, e2217, c_0, fun _ => ⟨rfl, hlB2221, k2223, lt_B2140_B2221, (Nat.le_trans hi2214.size hge2222)⟩, c_2⟩
   refine preL_cons (fun S F w2227 hS hbef hcl hI => ?_) ?_
   ·
    obtain ⟨B2200, hi2228, e2229, e2230, e2231, c_0, c_1, c_2⟩ := hI
    have hb2232 := low0 hb2150 hi2228
    have k2233 := ((hN2142.blk.grown0 hg2145).grown0 hi2228)
    refine wpo_loadn (vs := [.int .i64 r.th, .int .i64 r.ve, .bool r.rd, .bool r.wr, .bool r.wk]) rt_24 e2230 rfl (k2233.rangeL 0 5 rfl) rfl ?_
    exact wpo_nil ⟨B2200, hi2228, e2229, e2230, e2231, c_0, c_1, fun _ => rfl⟩
   exact preL_nil
  ·
   intro S F w2234 hall hI
   obtain ⟨B2200, hi2235, e2236, e2237, e2238, c_0, c_1, c_2⟩ := hI
   have hb2239 := low0 hb2150 hi2235
   obtain e2240 := c_0 (hall 0 (by decide))
   obtain ⟨e2241, hlB2200, kb_B2200, lt_B2140_B2200, hk_B2200⟩ := c_1 (hall 1 (by decide))
   obtain e2242 := c_2 (hall 2 (by decide))
   refine wpo_call (vs := [.agg #[.int .i64 r.th, .int .i64 r.ve, .bool r.rd, .bool r.wr, .bool r.wk]]) gf_16 (args_cons e2242 args_nil) rfl (toRight_c r _) ?_
   rintro _ w2243 ⟨rfl, hg2244⟩
   have hb2245 := low0 hb2239 hg2244
   have k2246 := (kb_B2200.grown0 hg2244)
   refine wpo_call (vs := [.slice (some ⟨B2200, 0, none⟩) xs.length xs.length, .agg #[.int .i64 r.th, .int .i64 r.ve, .bool r.rd, .bool r.wr, .bool r.wk]]) gf_14 (args_cons e2241 (args_cons rfl args_nil)) rfl (sReachIn_c r _ xs _ _ (rows_sl wide_rt k2246) (by omega)) ?_
   rintro _ w2247 ⟨rfl, hg2248⟩
   have hb2249 := low0 hb2245 hg2248
   refine wpo_assign (v := .bool (reachIn xs r)) rfl rfl ?_
   refine wpo_nil ?_
   refine thn_n ?_
   refine wpf_seq_region ?_
   refine wpo_move (v := .slice a xs.length c) e2236 rfl ?_
   have k2250 := ((((hN2142.blk.grown0 hg2145).grown0 hi2235).grown0 hg2244).grown0 hg2248)
   have k2251 := (k2246.grown0 hg2248)
   refine wpo_call (vs := [.slice a xs.length c]) gf_15 (args_cons rfl args_nil) rfl (toRightS_c _ xs _ _ (SlAt.low hs hb2249) (by omega)) ?_
   rintro _ w2256 ⟨B2252, rfl, hge2253, k2254, hg2255⟩
   have hb2257 := low0 hb2249 hg2255
   have hlB2252 := Nat.le_trans hb2249.size hge2253
   have lt_B2140_B2252 := Nat.lt_of_lt_of_le (k2250).lt hge2253
   have lt_B2200_B2252 := Nat.lt_of_lt_of_le (k2251).lt hge2253
   refine wpo_assign (v := .slice (some ⟨B2252, 0, none⟩) xs.length xs.length) rfl rfl ?_
   refine wpo_nil ?_
   refine wpf_seq_region ?_
   refine wpo_move (v := .slice (some ⟨B2252, 0, none⟩) xs.length xs.length) rfl rfl ?_
   have k2258 := (k2250.grown0 hg2255)
   refine wpo_loadn (vs := [.int .i64 r.th, .int .i64 r.ve, .bool r.rd, .bool r.wr, .bool r.wk]) rt_24 e2237 rfl (k2258.rangeL 0 5 rfl) rfl ?_
   refine wpo_call (vs := [.agg #[.int .i64 r.th, .int .i64 r.ve, .bool r.rd, .bool r.wr, .bool r.wk]]) gf_16 (args_cons rfl args_nil) rfl (toRight_c r _) ?_
   rintro _ w2259 ⟨rfl, hg2260⟩
   have hb2261 := low0 hb2257 hg2260
   have k2262 := (k2254.grown0 hg2260)
   refine wpo_call (vs := [.slice (some ⟨B2252, 0, none⟩) xs.length xs.length, .agg #[.int .i64 r.th, .int .i64 r.ve, .bool r.rd, .bool r.wr, .bool r.wk]]) gf_17 (args_cons rfl (args_cons rfl args_nil)) rfl (ReachIn_c r _ xs _ _ (rows_sl wide_rt k2262) (by omega)) ?_
   rintro _ w2263 ⟨rfl, hg2264⟩
   have hb2265 := low0 hb2261 hg2264
   refine wpo_assign (v := .bool (reachIn xs r)) rfl rfl ?_
   refine wpo_nil ?_
   refine wpf_seq ?_
   refine wpf_seq_region ?_
   refine wpo_move (v := .bool (reachIn xs r)) rfl rfl ?_
   refine wpo_move (v := .bool (reachIn xs r)) rfl rfl ?_
   refine wpo_neqb (q := false) (by kernel_rfl) rfl rfl (by simp) rfl ?_
   refine wpo_nil ?_
   refine wpf_condf rfl rfl ?_
   refine wpf_skip ?_
   refine thn_n ?_
   refine wpf_seq ?_
   refine wpf_seq_region ?_
   refine wpo_move (v := .slice (some ⟨B2252, 0, none⟩) xs.length xs.length) rfl rfl ?_
   refine wpo_move (v := .slice a xs.length c) e2236 rfl ?_
   have k2266 := ((k2258.grown0 hg2260).grown0 hg2264)
   have k2267 := (((k2251.grown0 hg2255).grown0 hg2260).grown0 hg2264)
   have k2268 := (k2262.grown0 hg2264)
   refine wpo_call (vs := [.slice a xs.length c]) gf_15 (args_cons rfl args_nil) rfl (toRightS_c _ xs _ _ (SlAt.low hs hb2265) (by omega)) ?_
   rintro _ w2273 ⟨B2269, rfl, hge2270, k2271, hg2272⟩
   have hb2274 := low0 hb2265 hg2272
   have hlB2269 := Nat.le_trans hb2265.size hge2270
   have lt_B2140_B2269 := Nat.lt_of_lt_of_le (k2266).lt hge2270
   have lt_B2200_B2269 := Nat.lt_of_lt_of_le (k2267).lt hge2270
   have lt_B2252_B2269 := Nat.lt_of_lt_of_le (k2268).lt hge2270
   have k2275 := (k2268.grown0 hg2272)
   refine wpo_call (vs := [.slice (some ⟨B2252, 0, none⟩) xs.length xs.length, .slice (some ⟨B2269, 0, none⟩) xs.length xs.length]) gf_18 (args_cons rfl (args_cons rfl args_nil)) rfl (eqRightS_c _ xs xs _ _ _ _ (rows_sl wide_rt k2275) (rows_sl wide_rt k2271) (by omega) (by omega)) ?_
   rintro _ w2276 ⟨rfl, hg2277⟩
   have hb2278 := low0 hb2274 hg2277
   refine wpo_not (b' := false) (congrArg Value.bool (decide_eq_true rfl)) rfl rfl ?_
   refine wpo_nil ?_
   refine wpf_condf rfl rfl ?_
   refine wpf_skip ?_
   refine thn_n ?_
   refine wpf_seq_region ?_
   refine wpo_assign (v := .bool true) rfl rfl ?_
   refine wpo_nil ?_
   refine wpf_ret ?_
   refine ⟨.bool true, res1 rfl rfl, ?_, hb2278⟩
   rfl

end Go.Proofs.Ytlkmdoebmklbbaa
