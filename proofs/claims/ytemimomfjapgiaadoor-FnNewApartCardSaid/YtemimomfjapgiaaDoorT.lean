/- Walks, printed by a program of mine (gen.py) out of the functions. -/
import Derived.Test.YtemimomfjapgiaaDoorC
namespace Go.Proofs.YtemimomfjapgiaaDoor
open Go.RowKit Go.Dw
set_option maxRecDepth 100000
set_option maxHeartbeats 4000000
set_option linter.unusedSimpArgs false
set_option linter.unusedVariables false
theorem gf_17 : goFn Tryd.prog 17 = true := by kernel_rfl
theorem gf_18 : goFn Tryd.prog 18 = true := by kernel_rfl
theorem gf_30 : goFn Tryd.prog 30 = true := by kernel_rfl
theorem gf_34 : goFn Tryd.prog 34 = true := by kernel_rfl
theorem mk_28 : mkTy Tryd.prog 28 = some (39, 5, 24, some (.agg #[.int .i64 0, .int .i64 0, .bool false, .bool false, .bool false])) := by kernel_rfl
theorem zt_31 : zeroTy Tryd.prog 31 = some (.agg #[.int .i64 0, .int .i64 0, .int .i64 0, .int .i64 0, .int .i64 0, .slice none 0 0, .slice none 0 0, .int .i64 0]) := by kernel_rfl
theorem copyR_c (w : World) (xs : List Rt) (a : Option Addr) (c : Nat) (hs : SlAt w a 5 (xs.map Rt.cells)) (hc : a = none → c = 0) (hn : xs.length ≤ 1048576) : CallsR Tryd.prog 34 #[.slice a xs.length c] w (fun v w' => ∃ (a' : Option Addr) (cap' : Nat), v = .slice a' xs.length cap' ∧ OwnN w.heap.size w' a' 39 5 cap' xs.length (xs.flatMap Rt.cells) ∧ w.grownBy w' none) := by
 refine calls_of_wpf (n := 5) Tryd.func34 rfl Tryd.ntmps34 rfl ?_
 have hb0 := World.grownBy.refl w none
 refine wpf_seq_region ?_
 refine wpo_assign (v := .slice none 0 0) rfl rfl ?_
 refine wpo_nil ?_
 refine wpf_seq_region ?_
 refine wpo_move (v := .slice a xs.length c) rfl rfl ?_
 refine wpo_appendN (g := Rt.cells) (ys := []) (zs := xs) (lo := w.heap.size) mk_28 rfl wide_rt (by omega) onec_rt rfl rfl OwnN.nil (SlAt.low hs hb0) hc (by first | omega | exact Nat.le_of_ble_eq_true rfl | (simp only [List.length_nil, List.length_cons, List.length_append, List.length_replicate]; omega)) (by omega) hb0.size rfl ?_
 intro a101 cap102 w103 hO104 hg105 hor106
 have hb107 := low0 hb0 hg105
 refine wpo_assign (v := .slice a101 xs.length cap102) rfl rfl ?_
 refine wpo_nil ?_
 refine wpf_ret ?_
 refine ⟨.slice a101 xs.length cap102, res1 rfl rfl, a101, cap102, rfl, hO104, hb107⟩

theorem list4_c (w : World) : CallsR Tryd.prog 17 #[.agg #[.int .i64 0, .int .i64 0, .bool false, .bool false, .bool false, .int .i64 0, .int .i64 0, .bool false, .bool false, .bool false, .int .i64 0, .int .i64 0, .bool false, .bool false, .bool false, .int .i64 0, .int .i64 0, .bool false, .bool false, .bool false]] w (fun v w' => ∃ (B cap : Nat), v = .slice (some ⟨B, 0, none⟩) 4 cap ∧ w.heap.size ≤ B ∧ Dw.Own w' B 39 5 cap 4 (zeros4.flatMap Rt.cells) ∧ w.grownBy w' none) := by
 refine calls_of_wpf (n := 5) Tryd.func17 rfl Tryd.ntmps17 rfl ?_
 have hb0 := World.grownBy.refl w none
 refine wpf_seq_region ?_
 refine wpo_box (v := .agg #[.int .i64 0, .int .i64 0, .bool false, .bool false, .bool false, .int .i64 0, .int .i64 0, .bool false, .bool false, .bool false, .int .i64 0, .int .i64 0, .bool false, .bool false, .bool false, .int .i64 0, .int .i64 0, .bool false, .bool false, .bool false]) (cs := #[.int .i64 0, .int .i64 0, .bool false, .bool false, .bool false, .int .i64 0, .int .i64 0, .bool false, .bool false, .bool false, .int .i64 0, .int .i64 0, .bool false, .bool false, .bool false, .int .i64 0, .int .i64 0, .bool false, .bool false, .bool false]) rfl rfl rfl ?_
 intro B101 w102 hN103
 have hlB101 := hN_ge hN103 hb0
 have hb104 := low0 hb0 hN103.grw
 refine wpo_assign (v := .slice none 0 0) rfl rfl ?_
 refine wpo_nil ?_
 refine wpf_seq_region ?_
 have k105 : Blk w102 B101 44 (zeros4.flatMap Rt.cells).toArray := hN103.blk
 refine wpo_sliceArr at_44 rfl (by omega) rfl ?_
 refine wpo_call (vs := [.slice (some ⟨B101, 0, none⟩) 4 4]) gf_34 (args_cons rfl args_nil) rfl (copyR_c _ zeros4 _ _ (rows_sl wide_rt k105) (fun h => by cases h) (by first | omega | exact Nat.le_of_ble_eq_true rfl | (simp only [List.length_nil, List.length_cons, List.length_append, List.length_replicate]; omega))) ?_
 rintro _ w110 ⟨a106, cap107, rfl, hO108, hg109⟩
 have hb111 := low0 hb104 hg109
 have hO112 := OwnN.mono hO108 hb104.size
 refine wpo_assign (v := .slice a106 4 cap107) rfl rfl ?_
 refine wpo_nil ?_
 refine wpf_ret ?_
 obtain ⟨B113, h114, h115, h116⟩ := OwnN.some_ hO112 (by decide)
 refine ⟨.slice a106 4 cap107, res1 rfl rfl, B113, cap107, by rw [h114], h115, h116, hb111⟩

theorem ThingNew_yt (k to : Int) (l : Lab) (hk : ((decide (k = 2)) || (decide (k = 3))) = true) (hok : newOk k l to = true) (w : World) : CallsR Tryd.prog 8 #[.int .i64 k, .agg #[.int .i64 l.s, .int .i64 l.v], .int .i64 to] w (fun v w' => ∃ (S sc : Nat), v = .tuple #[.agg #[.int .i64 k, .int .i64 l.s, .int .i64 l.v, .int .i64 0, .int .i64 0, .slice (some ⟨S, 0, none⟩) 4 sc, .slice none 0 0, .int .i64 to], .bool true] ∧ w.heap.size ≤ S ∧ Dw.Own w' S 39 5 sc 4 (zeros4.flatMap Rt.cells) ∧ w.grownBy w' none) := by
 refine calls_of_wpf (n := 27) Tryd.func8 rfl Tryd.ntmps8 rfl ?_
 have hb0 := World.grownBy.refl w none
 have hlit : thingOk (⟨k, l, 0, 0, zeros4, [], to⟩ : Th) = true := (newOk_y hk).symm.trans hok
 refine wpf_seq_region ?_
 refine wpo_box (v := .agg #[.int .i64 l.s, .int .i64 l.v]) (cs := #[.int .i64 l.s, .int .i64 l.v]) rfl rfl rfl ?_
 intro B101 w102 hN103
 have hlB101 := hN_ge hN103 hb0
 have hb104 := low0 hb0 hN103.grw
 refine wpo_alloc (cs := #[.int .i64 0, .int .i64 0, .int .i64 0, .int .i64 0, .int .i64 0, .slice none 0 0, .slice none 0 0, .int .i64 0]) zt_31 rfl rfl ?_
 intro B105 w106 hN107
 have hlB105 := hN_ge hN107 hb104
 have lt_B101_B105 := hN_gtl hN107 (hN103.blk).lt
 have hb108 := low0 hb104 hN107.grw
 refine wpo_assign (v := .bool false) rfl rfl ?_
 refine wpo_nil ?_
 refine wpf_seq_region ?_
 refine wpo_move (v := .int .i64 k) rfl rfl ?_
 have k109 := (hN103.blk.grown0 hN107.grw)
 refine wpo_loadn (vs := [.int .i64 l.s, .int .i64 l.v]) rt_27 rfl rfl (k109.rangeL 0 2 rfl) rfl ?_
 refine wpo_move (v := .int .i64 to) rfl rfl ?_
 refine wpo_build (ps := [(0, .int .i64 k), (1, .agg #[.int .i64 l.s, .int .i64 l.v]), (6, .int .i64 to)]) (v := .agg #[.int .i64 k, .int .i64 l.s, .int .i64 l.v, .int .i64 0, .int .i64 0, .slice none 0 0, .slice none 0 0, .int .i64 to]) (parts_cons rfl (parts_cons rfl (parts_cons rfl parts_nil))) (by kernel_rfl) rfl ?_
 refine wpo_alloc (cs := #[.int .i64 0, .int .i64 0, .int .i64 0, .int .i64 0, .int .i64 0, .slice none 0 0, .slice none 0 0, .int .i64 0]) zt_31 rfl rfl ?_
 intro B110 w111 hN112
 have hlB110 := hN_ge hN112 hb108
 have lt_B101_B110 := hN_gtl hN112 (k109).lt
 have lt_B105_B110 := hN_gtl hN112 (hN107.blk).lt
 have hb113 := low0 hb108 hN112.grw
 refine wpo_storen (vs := [.int .i64 k, .int .i64 l.s, .int .i64 l.v, .int .i64 0, .int .i64 0, .slice none 0 0, .slice none 0 0, .int .i64 to]) (cs' := #[.int .i64 k, .int .i64 l.s, .int .i64 l.v, .int .i64 0, .int .i64 0, .slice none 0 0, .slice none 0 0, .int .i64 to]) rt_31 rfl rfl rfl (by simp [Value.oneCell']) hN112.blk (Nat.le_of_ble_eq_true rfl) rfl ?_
 intro w114 hS115
 have hb116 := low1 hb113 hS115.grw (by omega)
 refine wpo_nil ?_
 refine wpf_seq ?_
 refine wpf_seq_region_mid (fun f' w' => (f' 6 = .pointer (some ⟨B105, 0, none⟩) ∧ f' 7 = .bool false ∧ f' 8 = .pointer (some ⟨B110, 0, none⟩) ∧ f' 18 = .bool ((decide (k = 2)) || (decide (k = 3)))) ∧ w114 = w') ?_ ?_
 ·
  refine wpo_move (v := .int .i64 k) rfl rfl ?_
  refine wpo_eql (q := decide (k = 2)) rfl rfl rfl rfl ?_
  refine wpo_move (v := .bool (decide (k = 2))) rfl rfl ?_
  rcases bcases (decide (k = 2)) with h117 | h117
  ·
   have h118 := of_decide_eq_true h117
   refine wpo_pass rfl rfl rfl h117 rfl ?_
   refine wpo_pass rfl rfl rfl h117 rfl ?_
   refine wpo_pickt (v := .bool true) rfl h117 rfl rfl ?_
   exact wpo_nil ⟨⟨rfl, rfl, rfl, (congrArg Value.bool (by first | (simp only [h117, hk, hlit, b0, b1, b2, b3, b4, b5, b6, b7, b8, b9]; done) | simp [h117, hk, hlit]))⟩, rfl⟩
  ·
   have h119 := of_decide_eq_false h117
   refine wpo_run rfl rfl rfl h117 ?_
   refine wpo_move (v := .int .i64 k) rfl rfl ?_
   refine wpo_run rfl rfl rfl h117 ?_
   refine wpo_eql (q := decide (k = 3)) rfl rfl rfl rfl ?_
   refine wpo_pickf (v := .bool (decide (k = 3))) rfl h117 rfl rfl ?_
   exact wpo_nil ⟨⟨rfl, rfl, rfl, (congrArg Value.bool (by first | (simp only [h117, hk, hlit, b0, b1, b2, b3, b4, b5, b6, b7, b8, b9]; done) | simp [h117, hk, hlit]))⟩, rfl⟩
 ·
  rintro f120 w121 ⟨⟨e122, e123, e124, e125⟩, rfl⟩
  refine wpf_condt e125 hk ?_
  refine wpf_region ?_
  refine wpo_build (ps := []) (v := .agg #[.int .i64 0, .int .i64 0, .bool false, .bool false, .bool false, .int .i64 0, .int .i64 0, .bool false, .bool false, .bool false, .int .i64 0, .int .i64 0, .bool false, .bool false, .bool false, .int .i64 0, .int .i64 0, .bool false, .bool false, .bool false]) parts_nil (by kernel_rfl) rfl ?_
  have k126 := ((k109.grown0 hN112.grw).gn hS115.grw)
  have k127 := ((hN107.blk.grown0 hN112.grw).gn hS115.grw)
  refine wpo_call (vs := [.agg #[.int .i64 0, .int .i64 0, .bool false, .bool false, .bool false, .int .i64 0, .int .i64 0, .bool false, .bool false, .bool false, .int .i64 0, .int .i64 0, .bool false, .bool false, .bool false, .int .i64 0, .int .i64 0, .bool false, .bool false, .bool false]]) gf_17 (args_cons rfl args_nil) rfl (list4_c _) ?_
  rintro _ w133 ⟨B128, cap129, rfl, hge130, hO131, hg132⟩
  have hb134 := low0 hb116 hg132
  have hlB128 := Nat.le_trans hb116.size hge130
  have lt_B101_B128 := Nat.lt_of_lt_of_le (k126).lt hge130
  have lt_B105_B128 := Nat.lt_of_lt_of_le (k127).lt hge130
  have lt_B110_B128 := Nat.lt_of_lt_of_le (hS115.blk).lt hge130
  refine wpo_fieldAddr (o' := 5) fo_31_4 e124 rfl rfl ?_
  have k135 := (hS115.blk.grown0 hg132)
  refine wpo_store1 (v := .slice (some ⟨B128, 0, none⟩) 4 cap129) (cs' := #[.int .i64 k, .int .i64 l.s, .int .i64 l.v, .int .i64 0, .int .i64 0, .slice (some ⟨B128, 0, none⟩) 4 cap129, .slice none 0 0, .int .i64 to]) ot_28 rfl rfl rfl k135 (Nat.le_of_ble_eq_true rfl) rfl ?_
  intro w136 hS137
  have hb138 := low1 hb134 hS137.grw (by omega)
  refine wpo_nil ?_
  refine thn_n ?_
  refine wpf_seq ?_
  refine wpf_seq_region ?_
  refine wpo_loadn (vs := [.int .i64 k, .int .i64 l.s, .int .i64 l.v, .int .i64 0, .int .i64 0, .slice (some ⟨B128, 0, none⟩) 4 cap129, .slice none 0 0, .int .i64 to]) rt_31 e124 rfl (hS137.blk.rangeL 0 8 rfl) rfl ?_
  have k139 := (hO131.gn hS137.grw)
  refine wpo_call (vs := [.agg #[.int .i64 k, .int .i64 l.s, .int .i64 l.v, .int .i64 0, .int .i64 0, .slice (some ⟨B128, 0, none⟩) 4 cap129, .slice none 0 0, .int .i64 to]]) gf_18 (args_cons rfl args_nil) rfl (ThingOk_c (⟨⟨k, l, 0, 0, zeros4, [], to⟩, some ⟨B128, 0, none⟩, cap129, none, 0⟩ : MTh) _ (Own.sl wide_rt k139) SlAt.nil (by first | omega | exact Nat.le_of_ble_eq_true rfl | (simp only [List.length_nil, List.length_cons, List.length_append, List.length_replicate]; omega)) (by first | omega | exact Nat.le_of_ble_eq_true rfl | (simp only [List.length_nil, List.length_cons, List.length_append, List.length_replicate]; omega))) ?_
  rintro _ w140 ⟨rfl, hg141⟩
  have hb142 := low0 hb138 hg141
  refine wpo_not (b' := !thingOk (⟨k, l, 0, 0, zeros4, [], to⟩ : Th)) rfl rfl rfl ?_
  refine wpo_nil ?_
  refine wpf_condf rfl (not_of_t hlit) ?_
  refine wpf_skip ?_
  refine thn_n ?_
  refine wpf_seq_region ?_
  have k143 := (hS137.blk.grown0 hg141)
  refine wpo_loadn (vs := [.int .i64 k, .int .i64 l.s, .int .i64 l.v, .int .i64 0, .int .i64 0, .slice (some ⟨B128, 0, none⟩) 4 cap129, .slice none 0 0, .int .i64 to]) rt_31 e124 rfl (k143.rangeL 0 8 rfl) rfl ?_
  have k144 := (((k127.grown0 hg132).gn hS137.grw).grown0 hg141)
  refine wpo_storen (vs := [.int .i64 k, .int .i64 l.s, .int .i64 l.v, .int .i64 0, .int .i64 0, .slice (some ⟨B128, 0, none⟩) 4 cap129, .slice none 0 0, .int .i64 to]) (cs' := #[.int .i64 k, .int .i64 l.s, .int .i64 l.v, .int .i64 0, .int .i64 0, .slice (some ⟨B128, 0, none⟩) 4 cap129, .slice none 0 0, .int .i64 to]) rt_31 e122 rfl rfl (by simp [Value.oneCell']) k144 (Nat.le_of_ble_eq_true rfl) rfl ?_
  intro w145 hS146
  have hb147 := low1 hb142 hS146.grw (by omega)
  refine wpo_assign (v := .bool true) rfl rfl ?_
  refine wpo_nil ?_
  refine wpf_ret ?_
  have k148 := ((k139.grown0 hg141).gn hS146.grw)
  refine ⟨.tuple #[.agg #[.int .i64 k, .int .i64 l.s, .int .i64 l.v, .int .i64 0, .int .i64 0, .slice (some ⟨B128, 0, none⟩) 4 cap129, .slice none 0 0, .int .i64 to], .bool true], resCT rfl (resCell_mk (vs := [.int .i64 k, .int .i64 l.s, .int .i64 l.v, .int .i64 0, .int .i64 0, .slice (some ⟨B128, 0, none⟩) 4 cap129, .slice none 0 0, .int .i64 to]) rt_31 e122 rfl (hS146.blk.rangeL 0 8 rfl)) rfl, B128, cap129, rfl, hlB128, k148, hb147⟩

theorem ThingNew_yf (k to : Int) (l : Lab) (hk : ((decide (k = 2)) || (decide (k = 3))) = true) (hok : newOk k l to = false) (w : World) : CallsR Tryd.prog 8 #[.int .i64 k, .agg #[.int .i64 l.s, .int .i64 l.v], .int .i64 to] w (fun v w' => v = .tuple #[.agg #[.int .i64 0, .int .i64 0, .int .i64 0, .int .i64 0, .int .i64 0, .slice none 0 0, .slice none 0 0, .int .i64 0], .bool false] ∧ w.grownBy w' none) := by
 refine calls_of_wpf (n := 27) Tryd.func8 rfl Tryd.ntmps8 rfl ?_
 have hb0 := World.grownBy.refl w none
 have hlit : thingOk (⟨k, l, 0, 0, zeros4, [], to⟩ : Th) = false := (newOk_y hk).symm.trans hok
 refine wpf_seq_region ?_
 refine wpo_box (v := .agg #[.int .i64 l.s, .int .i64 l.v]) (cs := #[.int .i64 l.s, .int .i64 l.v]) rfl rfl rfl ?_
 intro B101 w102 hN103
 have hlB101 := hN_ge hN103 hb0
 have hb104 := low0 hb0 hN103.grw
 refine wpo_alloc (cs := #[.int .i64 0, .int .i64 0, .int .i64 0, .int .i64 0, .int .i64 0, .slice none 0 0, .slice none 0 0, .int .i64 0]) zt_31 rfl rfl ?_
 intro B105 w106 hN107
 have hlB105 := hN_ge hN107 hb104
 have lt_B101_B105 := hN_gtl hN107 (hN103.blk).lt
 have hb108 := low0 hb104 hN107.grw
 refine wpo_assign (v := .bool false) rfl rfl ?_
 refine wpo_nil ?_
 refine wpf_seq_region ?_
 refine wpo_move (v := .int .i64 k) rfl rfl ?_
 have k109 := (hN103.blk.grown0 hN107.grw)
 refine wpo_loadn (vs := [.int .i64 l.s, .int .i64 l.v]) rt_27 rfl rfl (k109.rangeL 0 2 rfl) rfl ?_
 refine wpo_move (v := .int .i64 to) rfl rfl ?_
 refine wpo_build (ps := [(0, .int .i64 k), (1, .agg #[.int .i64 l.s, .int .i64 l.v]), (6, .int .i64 to)]) (v := .agg #[.int .i64 k, .int .i64 l.s, .int .i64 l.v, .int .i64 0, .int .i64 0, .slice none 0 0, .slice none 0 0, .int .i64 to]) (parts_cons rfl (parts_cons rfl (parts_cons rfl parts_nil))) (by kernel_rfl) rfl ?_
 refine wpo_alloc (cs := #[.int .i64 0, .int .i64 0, .int .i64 0, .int .i64 0, .int .i64 0, .slice none 0 0, .slice none 0 0, .int .i64 0]) zt_31 rfl rfl ?_
 intro B110 w111 hN112
 have hlB110 := hN_ge hN112 hb108
 have lt_B101_B110 := hN_gtl hN112 (k109).lt
 have lt_B105_B110 := hN_gtl hN112 (hN107.blk).lt
 have hb113 := low0 hb108 hN112.grw
 refine wpo_storen (vs := [.int .i64 k, .int .i64 l.s, .int .i64 l.v, .int .i64 0, .int .i64 0, .slice none 0 0, .slice none 0 0, .int .i64 to]) (cs' := #[.int .i64 k, .int .i64 l.s, .int .i64 l.v, .int .i64 0, .int .i64 0, .slice none 0 0, .slice none 0 0, .int .i64 to]) rt_31 rfl rfl rfl (by simp [Value.oneCell']) hN112.blk (Nat.le_of_ble_eq_true rfl) rfl ?_
 intro w114 hS115
 have hb116 := low1 hb113 hS115.grw (by omega)
 refine wpo_nil ?_
 refine wpf_seq ?_
 refine wpf_seq_region_mid (fun f' w' => (f' 6 = .pointer (some ⟨B105, 0, none⟩) ∧ f' 7 = .bool false ∧ f' 8 = .pointer (some ⟨B110, 0, none⟩) ∧ f' 18 = .bool ((decide (k = 2)) || (decide (k = 3)))) ∧ w114 = w') ?_ ?_
 ·
  refine wpo_move (v := .int .i64 k) rfl rfl ?_
  refine wpo_eql (q := decide (k = 2)) rfl rfl rfl rfl ?_
  refine wpo_move (v := .bool (decide (k = 2))) rfl rfl ?_
  rcases bcases (decide (k = 2)) with h117 | h117
  ·
   have h118 := of_decide_eq_true h117
   refine wpo_pass rfl rfl rfl h117 rfl ?_
   refine wpo_pass rfl rfl rfl h117 rfl ?_
   refine wpo_pickt (v := .bool true) rfl h117 rfl rfl ?_
   exact wpo_nil ⟨⟨rfl, rfl, rfl, (congrArg Value.bool (by first | (simp only [h117, hk, hlit, b0, b1, b2, b3, b4, b5, b6, b7, b8, b9]; done) | simp [h117, hk, hlit]))⟩, rfl⟩
  ·
   have h119 := of_decide_eq_false h117
   refine wpo_run rfl rfl rfl h117 ?_
   refine wpo_move (v := .int .i64 k) rfl rfl ?_
   refine wpo_run rfl rfl rfl h117 ?_
   refine wpo_eql (q := decide (k = 3)) rfl rfl rfl rfl ?_
   refine wpo_pickf (v := .bool (decide (k = 3))) rfl h117 rfl rfl ?_
   exact wpo_nil ⟨⟨rfl, rfl, rfl, (congrArg Value.bool (by first | (simp only [h117, hk, hlit, b0, b1, b2, b3, b4, b5, b6, b7, b8, b9]; done) | simp [h117, hk, hlit]))⟩, rfl⟩
 ·
  rintro f120 w121 ⟨⟨e122, e123, e124, e125⟩, rfl⟩
  refine wpf_condt e125 hk ?_
  refine wpf_region ?_
  refine wpo_build (ps := []) (v := .agg #[.int .i64 0, .int .i64 0, .bool false, .bool false, .bool false, .int .i64 0, .int .i64 0, .bool false, .bool false, .bool false, .int .i64 0, .int .i64 0, .bool false, .bool false, .bool false, .int .i64 0, .int .i64 0, .bool false, .bool false, .bool false]) parts_nil (by kernel_rfl) rfl ?_
  have k126 := ((k109.grown0 hN112.grw).gn hS115.grw)
  have k127 := ((hN107.blk.grown0 hN112.grw).gn hS115.grw)
  refine wpo_call (vs := [.agg #[.int .i64 0, .int .i64 0, .bool false, .bool false, .bool false, .int .i64 0, .int .i64 0, .bool false, .bool false, .bool false, .int .i64 0, .int .i64 0, .bool false, .bool false, .bool false, .int .i64 0, .int .i64 0, .bool false, .bool false, .bool false]]) gf_17 (args_cons rfl args_nil) rfl (list4_c _) ?_
  rintro _ w133 ⟨B128, cap129, rfl, hge130, hO131, hg132⟩
  have hb134 := low0 hb116 hg132
  have hlB128 := Nat.le_trans hb116.size hge130
  have lt_B101_B128 := Nat.lt_of_lt_of_le (k126).lt hge130
  have lt_B105_B128 := Nat.lt_of_lt_of_le (k127).lt hge130
  have lt_B110_B128 := Nat.lt_of_lt_of_le (hS115.blk).lt hge130
  refine wpo_fieldAddr (o' := 5) fo_31_4 e124 rfl rfl ?_
  have k135 := (hS115.blk.grown0 hg132)
  refine wpo_store1 (v := .slice (some ⟨B128, 0, none⟩) 4 cap129) (cs' := #[.int .i64 k, .int .i64 l.s, .int .i64 l.v, .int .i64 0, .int .i64 0, .slice (some ⟨B128, 0, none⟩) 4 cap129, .slice none 0 0, .int .i64 to]) ot_28 rfl rfl rfl k135 (Nat.le_of_ble_eq_true rfl) rfl ?_
  intro w136 hS137
  have hb138 := low1 hb134 hS137.grw (by omega)
  refine wpo_nil ?_
  refine thn_n ?_
  refine wpf_seq ?_
  refine wpf_seq_region ?_
  refine wpo_loadn (vs := [.int .i64 k, .int .i64 l.s, .int .i64 l.v, .int .i64 0, .int .i64 0, .slice (some ⟨B128, 0, none⟩) 4 cap129, .slice none 0 0, .int .i64 to]) rt_31 e124 rfl (hS137.blk.rangeL 0 8 rfl) rfl ?_
  have k139 := (hO131.gn hS137.grw)
  refine wpo_call (vs := [.agg #[.int .i64 k, .int .i64 l.s, .int .i64 l.v, .int .i64 0, .int .i64 0, .slice (some ⟨B128, 0, none⟩) 4 cap129, .slice none 0 0, .int .i64 to]]) gf_18 (args_cons rfl args_nil) rfl (ThingOk_c (⟨⟨k, l, 0, 0, zeros4, [], to⟩, some ⟨B128, 0, none⟩, cap129, none, 0⟩ : MTh) _ (Own.sl wide_rt k139) SlAt.nil (by first | omega | exact Nat.le_of_ble_eq_true rfl | (simp only [List.length_nil, List.length_cons, List.length_append, List.length_replicate]; omega)) (by first | omega | exact Nat.le_of_ble_eq_true rfl | (simp only [List.length_nil, List.length_cons, List.length_append, List.length_replicate]; omega))) ?_
  rintro _ w140 ⟨rfl, hg141⟩
  have hb142 := low0 hb138 hg141
  refine wpo_not (b' := !thingOk (⟨k, l, 0, 0, zeros4, [], to⟩ : Th)) rfl rfl rfl ?_
  refine wpo_nil ?_
  refine wpf_condt rfl (not_of_f hlit) ?_
  refine wpf_seq_region ?_
  refine wpo_build (ps := []) (v := .agg #[.int .i64 0, .int .i64 0, .int .i64 0, .int .i64 0, .int .i64 0, .slice none 0 0, .slice none 0 0, .int .i64 0]) parts_nil (by kernel_rfl) rfl ?_
  have k143 := (((k127.grown0 hg132).gn hS137.grw).grown0 hg141)
  refine wpo_storen (vs := [.int .i64 0, .int .i64 0, .int .i64 0, .int .i64 0, .int .i64 0, .slice none 0 0, .slice none 0 0, .int .i64 0]) (cs' := #[.int .i64 0, .int .i64 0, .int .i64 0, .int .i64 0, .int .i64 0, .slice none 0 0, .slice none 0 0, .int .i64 0]) rt_31 e122 rfl rfl (by simp [Value.oneCell']) k143 (Nat.le_of_ble_eq_true rfl) rfl ?_
  intro w144 hS145
  have hb146 := low1 hb142 hS145.grw (by omega)
  refine wpo_assign (v := .bool false) rfl rfl ?_
  refine wpo_nil ?_
  refine wpf_ret ?_
  refine thn_r ?_
  refine ⟨.tuple #[.agg #[.int .i64 0, .int .i64 0, .int .i64 0, .int .i64 0, .int .i64 0, .slice none 0 0, .slice none 0 0, .int .i64 0], .bool false], resCT rfl (resCell_mk (vs := [.int .i64 0, .int .i64 0, .int .i64 0, .int .i64 0, .int .i64 0, .slice none 0 0, .slice none 0 0, .int .i64 0]) rt_31 e122 rfl (hS145.blk.rangeL 0 8 rfl)) rfl, rfl, hb146⟩

theorem ThingNew_nt (k to : Int) (l : Lab) (hk : ((decide (k = 2)) || (decide (k = 3))) = false) (hok : newOk k l to = true) (w : World) : CallsR Tryd.prog 8 #[.int .i64 k, .agg #[.int .i64 l.s, .int .i64 l.v], .int .i64 to] w (fun v w' => v = .tuple #[.agg #[.int .i64 k, .int .i64 l.s, .int .i64 l.v, .int .i64 0, .int .i64 0, .slice none 0 0, .slice none 0 0, .int .i64 to], .bool true] ∧ w.grownBy w' none) := by
 refine calls_of_wpf (n := 27) Tryd.func8 rfl Tryd.ntmps8 rfl ?_
 have hb0 := World.grownBy.refl w none
 have hlit : thingOk (⟨k, l, 0, 0, [], [], to⟩ : Th) = true := (newOk_n hk).symm.trans hok
 have h101 : decide (k = 2) = false := or_l hk
 have h102 : decide (k = 3) = false := or_r hk
 refine wpf_seq_region ?_
 refine wpo_box (v := .agg #[.int .i64 l.s, .int .i64 l.v]) (cs := #[.int .i64 l.s, .int .i64 l.v]) rfl rfl rfl ?_
 intro B103 w104 hN105
 have hlB103 := hN_ge hN105 hb0
 have hb106 := low0 hb0 hN105.grw
 refine wpo_alloc (cs := #[.int .i64 0, .int .i64 0, .int .i64 0, .int .i64 0, .int .i64 0, .slice none 0 0, .slice none 0 0, .int .i64 0]) zt_31 rfl rfl ?_
 intro B107 w108 hN109
 have hlB107 := hN_ge hN109 hb106
 have lt_B103_B107 := hN_gtl hN109 (hN105.blk).lt
 have hb110 := low0 hb106 hN109.grw
 refine wpo_assign (v := .bool false) rfl rfl ?_
 refine wpo_nil ?_
 refine wpf_seq_region ?_
 refine wpo_move (v := .int .i64 k) rfl rfl ?_
 have k111 := (hN105.blk.grown0 hN109.grw)
 refine wpo_loadn (vs := [.int .i64 l.s, .int .i64 l.v]) rt_27 rfl rfl (k111.rangeL 0 2 rfl) rfl ?_
 refine wpo_move (v := .int .i64 to) rfl rfl ?_
 refine wpo_build (ps := [(0, .int .i64 k), (1, .agg #[.int .i64 l.s, .int .i64 l.v]), (6, .int .i64 to)]) (v := .agg #[.int .i64 k, .int .i64 l.s, .int .i64 l.v, .int .i64 0, .int .i64 0, .slice none 0 0, .slice none 0 0, .int .i64 to]) (parts_cons rfl (parts_cons rfl (parts_cons rfl parts_nil))) (by kernel_rfl) rfl ?_
 refine wpo_alloc (cs := #[.int .i64 0, .int .i64 0, .int .i64 0, .int .i64 0, .int .i64 0, .slice none 0 0, .slice none 0 0, .int .i64 0]) zt_31 rfl rfl ?_
 intro B112 w113 hN114
 have hlB112 := hN_ge hN114 hb110
 have lt_B103_B112 := hN_gtl hN114 (k111).lt
 have lt_B107_B112 := hN_gtl hN114 (hN109.blk).lt
 have hb115 := low0 hb110 hN114.grw
 refine wpo_storen (vs := [.int .i64 k, .int .i64 l.s, .int .i64 l.v, .int .i64 0, .int .i64 0, .slice none 0 0, .slice none 0 0, .int .i64 to]) (cs' := #[.int .i64 k, .int .i64 l.s, .int .i64 l.v, .int .i64 0, .int .i64 0, .slice none 0 0, .slice none 0 0, .int .i64 to]) rt_31 rfl rfl rfl (by simp [Value.oneCell']) hN114.blk (Nat.le_of_ble_eq_true rfl) rfl ?_
 intro w116 hS117
 have hb118 := low1 hb115 hS117.grw (by omega)
 refine wpo_nil ?_
 refine wpf_seq ?_
 refine wpf_seq_region ?_
 refine wpo_move (v := .int .i64 k) rfl rfl ?_
 refine wpo_eql (q := decide (k = 2)) rfl rfl rfl rfl ?_
 refine wpo_move (v := .bool (decide (k = 2))) rfl rfl ?_
 refine wpo_run rfl rfl rfl h101 ?_
 refine wpo_move (v := .int .i64 k) rfl rfl ?_
 refine wpo_run rfl rfl rfl h101 ?_
 refine wpo_eql (q := decide (k = 3)) rfl rfl rfl rfl ?_
 refine wpo_pickf (v := .bool (decide (k = 3))) rfl h101 rfl rfl ?_
 refine wpo_nil ?_
 refine wpf_condf rfl h102 ?_
 refine wpf_skip ?_
 refine thn_n ?_
 refine wpf_seq ?_
 refine wpf_seq_region ?_
 refine wpo_loadn (vs := [.int .i64 k, .int .i64 l.s, .int .i64 l.v, .int .i64 0, .int .i64 0, .slice none 0 0, .slice none 0 0, .int .i64 to]) rt_31 rfl rfl (hS117.blk.rangeL 0 8 rfl) rfl ?_
 refine wpo_call (vs := [.agg #[.int .i64 k, .int .i64 l.s, .int .i64 l.v, .int .i64 0, .int .i64 0, .slice none 0 0, .slice none 0 0, .int .i64 to]]) gf_18 (args_cons rfl args_nil) rfl (ThingOk_c (⟨⟨k, l, 0, 0, [], [], to⟩, none, 0, none, 0⟩ : MTh) _ SlAt.nil SlAt.nil (by first | omega | exact Nat.le_of_ble_eq_true rfl | (simp only [List.length_nil, List.length_cons, List.length_append, List.length_replicate]; omega)) (by first | omega | exact Nat.le_of_ble_eq_true rfl | (simp only [List.length_nil, List.length_cons, List.length_append, List.length_replicate]; omega))) ?_
 rintro _ w119 ⟨rfl, hg120⟩
 have hb121 := low0 hb118 hg120
 refine wpo_not (b' := !thingOk (⟨k, l, 0, 0, [], [], to⟩ : Th)) rfl rfl rfl ?_
 refine wpo_nil ?_
 refine wpf_condf rfl (not_of_t hlit) ?_
 refine wpf_skip ?_
 refine thn_n ?_
 refine wpf_seq_region ?_
 have k122 := (hS117.blk.grown0 hg120)
 refine wpo_loadn (vs := [.int .i64 k, .int .i64 l.s, .int .i64 l.v, .int .i64 0, .int .i64 0, .slice none 0 0, .slice none 0 0, .int .i64 to]) rt_31 rfl rfl (k122.rangeL 0 8 rfl) rfl ?_
 have k123 := (((hN109.blk.grown0 hN114.grw).gn hS117.grw).grown0 hg120)
 refine wpo_storen (vs := [.int .i64 k, .int .i64 l.s, .int .i64 l.v, .int .i64 0, .int .i64 0, .slice none 0 0, .slice none 0 0, .int .i64 to]) (cs' := #[.int .i64 k, .int .i64 l.s, .int .i64 l.v, .int .i64 0, .int .i64 0, .slice none 0 0, .slice none 0 0, .int .i64 to]) rt_31 rfl rfl rfl (by simp [Value.oneCell']) k123 (Nat.le_of_ble_eq_true rfl) rfl ?_
 intro w124 hS125
 have hb126 := low1 hb121 hS125.grw (by omega)
 refine wpo_assign (v := .bool true) rfl rfl ?_
 refine wpo_nil ?_
 refine wpf_ret ?_
 refine ⟨.tuple #[.agg #[.int .i64 k, .int .i64 l.s, .int .i64 l.v, .int .i64 0, .int .i64 0, .slice none 0 0, .slice none 0 0, .int .i64 to], .bool true], resCT rfl (resCell_mk (vs := [.int .i64 k, .int .i64 l.s, .int .i64 l.v, .int .i64 0, .int .i64 0, .slice none 0 0, .slice none 0 0, .int .i64 to]) rt_31 rfl rfl (hS125.blk.rangeL 0 8 rfl)) rfl, rfl, hb126⟩

theorem ThingNew_nf (k to : Int) (l : Lab) (hk : ((decide (k = 2)) || (decide (k = 3))) = false) (hok : newOk k l to = false) (w : World) : CallsR Tryd.prog 8 #[.int .i64 k, .agg #[.int .i64 l.s, .int .i64 l.v], .int .i64 to] w (fun v w' => v = .tuple #[.agg #[.int .i64 0, .int .i64 0, .int .i64 0, .int .i64 0, .int .i64 0, .slice none 0 0, .slice none 0 0, .int .i64 0], .bool false] ∧ w.grownBy w' none) := by
 refine calls_of_wpf (n := 27) Tryd.func8 rfl Tryd.ntmps8 rfl ?_
 have hb0 := World.grownBy.refl w none
 have hlit : thingOk (⟨k, l, 0, 0, [], [], to⟩ : Th) = false := (newOk_n hk).symm.trans hok
 have h101 : decide (k = 2) = false := or_l hk
 have h102 : decide (k = 3) = false := or_r hk
 refine wpf_seq_region ?_
 refine wpo_box (v := .agg #[.int .i64 l.s, .int .i64 l.v]) (cs := #[.int .i64 l.s, .int .i64 l.v]) rfl rfl rfl ?_
 intro B103 w104 hN105
 have hlB103 := hN_ge hN105 hb0
 have hb106 := low0 hb0 hN105.grw
 refine wpo_alloc (cs := #[.int .i64 0, .int .i64 0, .int .i64 0, .int .i64 0, .int .i64 0, .slice none 0 0, .slice none 0 0, .int .i64 0]) zt_31 rfl rfl ?_
 intro B107 w108 hN109
 have hlB107 := hN_ge hN109 hb106
 have lt_B103_B107 := hN_gtl hN109 (hN105.blk).lt
 have hb110 := low0 hb106 hN109.grw
 refine wpo_assign (v := .bool false) rfl rfl ?_
 refine wpo_nil ?_
 refine wpf_seq_region ?_
 refine wpo_move (v := .int .i64 k) rfl rfl ?_
 have k111 := (hN105.blk.grown0 hN109.grw)
 refine wpo_loadn (vs := [.int .i64 l.s, .int .i64 l.v]) rt_27 rfl rfl (k111.rangeL 0 2 rfl) rfl ?_
 refine wpo_move (v := .int .i64 to) rfl rfl ?_
 refine wpo_build (ps := [(0, .int .i64 k), (1, .agg #[.int .i64 l.s, .int .i64 l.v]), (6, .int .i64 to)]) (v := .agg #[.int .i64 k, .int .i64 l.s, .int .i64 l.v, .int .i64 0, .int .i64 0, .slice none 0 0, .slice none 0 0, .int .i64 to]) (parts_cons rfl (parts_cons rfl (parts_cons rfl parts_nil))) (by kernel_rfl) rfl ?_
 refine wpo_alloc (cs := #[.int .i64 0, .int .i64 0, .int .i64 0, .int .i64 0, .int .i64 0, .slice none 0 0, .slice none 0 0, .int .i64 0]) zt_31 rfl rfl ?_
 intro B112 w113 hN114
 have hlB112 := hN_ge hN114 hb110
 have lt_B103_B112 := hN_gtl hN114 (k111).lt
 have lt_B107_B112 := hN_gtl hN114 (hN109.blk).lt
 have hb115 := low0 hb110 hN114.grw
 refine wpo_storen (vs := [.int .i64 k, .int .i64 l.s, .int .i64 l.v, .int .i64 0, .int .i64 0, .slice none 0 0, .slice none 0 0, .int .i64 to]) (cs' := #[.int .i64 k, .int .i64 l.s, .int .i64 l.v, .int .i64 0, .int .i64 0, .slice none 0 0, .slice none 0 0, .int .i64 to]) rt_31 rfl rfl rfl (by simp [Value.oneCell']) hN114.blk (Nat.le_of_ble_eq_true rfl) rfl ?_
 intro w116 hS117
 have hb118 := low1 hb115 hS117.grw (by omega)
 refine wpo_nil ?_
 refine wpf_seq ?_
 refine wpf_seq_region ?_
 refine wpo_move (v := .int .i64 k) rfl rfl ?_
 refine wpo_eql (q := decide (k = 2)) rfl rfl rfl rfl ?_
 refine wpo_move (v := .bool (decide (k = 2))) rfl rfl ?_
 refine wpo_run rfl rfl rfl h101 ?_
 refine wpo_move (v := .int .i64 k) rfl rfl ?_
 refine wpo_run rfl rfl rfl h101 ?_
 refine wpo_eql (q := decide (k = 3)) rfl rfl rfl rfl ?_
 refine wpo_pickf (v := .bool (decide (k = 3))) rfl h101 rfl rfl ?_
 refine wpo_nil ?_
 refine wpf_condf rfl h102 ?_
 refine wpf_skip ?_
 refine thn_n ?_
 refine wpf_seq ?_
 refine wpf_seq_region ?_
 refine wpo_loadn (vs := [.int .i64 k, .int .i64 l.s, .int .i64 l.v, .int .i64 0, .int .i64 0, .slice none 0 0, .slice none 0 0, .int .i64 to]) rt_31 rfl rfl (hS117.blk.rangeL 0 8 rfl) rfl ?_
 refine wpo_call (vs := [.agg #[.int .i64 k, .int .i64 l.s, .int .i64 l.v, .int .i64 0, .int .i64 0, .slice none 0 0, .slice none 0 0, .int .i64 to]]) gf_18 (args_cons rfl args_nil) rfl (ThingOk_c (⟨⟨k, l, 0, 0, [], [], to⟩, none, 0, none, 0⟩ : MTh) _ SlAt.nil SlAt.nil (by first | omega | exact Nat.le_of_ble_eq_true rfl | (simp only [List.length_nil, List.length_cons, List.length_append, List.length_replicate]; omega)) (by first | omega | exact Nat.le_of_ble_eq_true rfl | (simp only [List.length_nil, List.length_cons, List.length_append, List.length_replicate]; omega))) ?_
 rintro _ w119 ⟨rfl, hg120⟩
 have hb121 := low0 hb118 hg120
 refine wpo_not (b' := !thingOk (⟨k, l, 0, 0, [], [], to⟩ : Th)) rfl rfl rfl ?_
 refine wpo_nil ?_
 refine wpf_condt rfl (not_of_f hlit) ?_
 refine wpf_seq_region ?_
 refine wpo_build (ps := []) (v := .agg #[.int .i64 0, .int .i64 0, .int .i64 0, .int .i64 0, .int .i64 0, .slice none 0 0, .slice none 0 0, .int .i64 0]) parts_nil (by kernel_rfl) rfl ?_
 have k122 := (((hN109.blk.grown0 hN114.grw).gn hS117.grw).grown0 hg120)
 refine wpo_storen (vs := [.int .i64 0, .int .i64 0, .int .i64 0, .int .i64 0, .int .i64 0, .slice none 0 0, .slice none 0 0, .int .i64 0]) (cs' := #[.int .i64 0, .int .i64 0, .int .i64 0, .int .i64 0, .int .i64 0, .slice none 0 0, .slice none 0 0, .int .i64 0]) rt_31 rfl rfl rfl (by simp [Value.oneCell']) k122 (Nat.le_of_ble_eq_true rfl) rfl ?_
 intro w123 hS124
 have hb125 := low1 hb121 hS124.grw (by omega)
 refine wpo_assign (v := .bool false) rfl rfl ?_
 refine wpo_nil ?_
 refine wpf_ret ?_
 refine thn_r ?_
 refine ⟨.tuple #[.agg #[.int .i64 0, .int .i64 0, .int .i64 0, .int .i64 0, .int .i64 0, .slice none 0 0, .slice none 0 0, .int .i64 0], .bool false], resCT rfl (resCell_mk (vs := [.int .i64 0, .int .i64 0, .int .i64 0, .int .i64 0, .int .i64 0, .slice none 0 0, .slice none 0 0, .int .i64 0]) rt_31 rfl rfl (hS124.blk.rangeL 0 8 rfl)) rfl, rfl, hb125⟩

theorem sThingNew_yt (k to : Int) (l : Lab) (hk : ((decide (k = 2)) || (decide (k = 3))) = true) (hok : newOk k l to = true) (w : World) : CallsR Tryd.prog 55 #[.int .i64 k, .agg #[.int .i64 l.s, .int .i64 l.v], .int .i64 to] w (fun v w' => ∃ (S sc Q qc : Nat), v = .tuple #[.agg #[.int .i64 k, .int .i64 l.s, .int .i64 l.v, .int .i64 0, .int .i64 0, .slice (some ⟨S, 0, none⟩) 4 sc, .slice (some ⟨Q, 0, none⟩) 0 qc, .int .i64 to], .bool true] ∧ w.heap.size ≤ S ∧ Dw.Own w' S 39 5 sc 4 (zeros4.flatMap Rt.cells) ∧ w.heap.size ≤ Q ∧ Dw.Own w' Q 3 1 qc 0 (([] : List Int).flatMap icell) ∧ S ≠ Q ∧ w.grownBy w' none) := by
 refine calls_of_wpf (n := 24) Tryd.func55 rfl Tryd.ntmps55 rfl ?_
 have hb0 := World.grownBy.refl w none
 have hlit : thingOk (⟨k, l, 0, 0, zeros4, [], to⟩ : Th) = true := (newOk_y hk).symm.trans hok
 refine wpf_seq_region ?_
 refine wpo_box (v := .agg #[.int .i64 l.s, .int .i64 l.v]) (cs := #[.int .i64 l.s, .int .i64 l.v]) rfl rfl rfl ?_
 intro B101 w102 hN103
 have hlB101 := hN_ge hN103 hb0
 have hb104 := low0 hb0 hN103.grw
 refine wpo_alloc (cs := #[.int .i64 0, .int .i64 0, .int .i64 0, .int .i64 0, .int .i64 0, .slice none 0 0, .slice none 0 0, .int .i64 0]) zt_31 rfl rfl ?_
 intro B105 w106 hN107
 have hlB105 := hN_ge hN107 hb104
 have lt_B101_B105 := hN_gtl hN107 (hN103.blk).lt
 have hb108 := low0 hb104 hN107.grw
 refine wpo_assign (v := .bool false) rfl rfl ?_
 refine wpo_nil ?_
 refine wpf_seq_region ?_
 refine wpo_move (v := .int .i64 k) rfl rfl ?_
 have k109 := (hN103.blk.grown0 hN107.grw)
 refine wpo_loadn (vs := [.int .i64 l.s, .int .i64 l.v]) rt_27 rfl rfl (k109.rangeL 0 2 rfl) rfl ?_
 refine wpo_buildSlice (ps := []) (e := 39) (cs := (([] : List Rt).flatMap Rt.cells).toArray) parts_nil (fun _ => by kernel_rfl) rfl ?_
 intro B110 w111 hN112
 have hlB110 := hN_ge hN112 hb108
 have lt_B101_B110 := hN_gtl hN112 (k109).lt
 have lt_B105_B110 := hN_gtl hN112 (hN107.blk).lt
 have hb113 := low0 hb108 hN112.grw
 refine wpo_buildSlice (ps := []) (e := 3) (cs := (([] : List Int).flatMap icell).toArray) parts_nil (fun _ => by kernel_rfl) rfl ?_
 intro B114 w115 hN116
 have hlB114 := hN_ge hN116 hb113
 have k117 := (k109.grown0 hN112.grw)
 have lt_B101_B114 := hN_gtl hN116 (k117).lt
 have k118 := (hN107.blk.grown0 hN112.grw)
 have lt_B105_B114 := hN_gtl hN116 (k118).lt
 have lt_B110_B114 := hN_gtl hN116 (hN112.blk).lt
 have hb119 := low0 hb113 hN116.grw
 refine wpo_move (v := .int .i64 to) rfl rfl ?_
 refine wpo_build (ps := [(0, .int .i64 k), (1, .agg #[.int .i64 l.s, .int .i64 l.v]), (4, .slice (some ⟨B110, 0, none⟩) 0 0), (5, .slice (some ⟨B114, 0, none⟩) 0 0), (6, .int .i64 to)]) (v := .agg #[.int .i64 k, .int .i64 l.s, .int .i64 l.v, .int .i64 0, .int .i64 0, .slice (some ⟨B110, 0, none⟩) 0 0, .slice (some ⟨B114, 0, none⟩) 0 0, .int .i64 to]) (parts_cons rfl (parts_cons rfl (parts_cons rfl (parts_cons rfl (parts_cons rfl parts_nil))))) (by kernel_rfl) rfl ?_
 refine wpo_alloc (cs := #[.int .i64 0, .int .i64 0, .int .i64 0, .int .i64 0, .int .i64 0, .slice none 0 0, .slice none 0 0, .int .i64 0]) zt_31 rfl rfl ?_
 intro B120 w121 hN122
 have hlB120 := hN_ge hN122 hb119
 have k123 := (k117.grown0 hN116.grw)
 have lt_B101_B120 := hN_gtl hN122 (k123).lt
 have k124 := (k118.grown0 hN116.grw)
 have lt_B105_B120 := hN_gtl hN122 (k124).lt
 have k125 := (hN112.blk.grown0 hN116.grw)
 have lt_B110_B120 := hN_gtl hN122 (k125).lt
 have lt_B114_B120 := hN_gtl hN122 (hN116.blk).lt
 have hb126 := low0 hb119 hN122.grw
 refine wpo_storen (vs := [.int .i64 k, .int .i64 l.s, .int .i64 l.v, .int .i64 0, .int .i64 0, .slice (some ⟨B110, 0, none⟩) 0 0, .slice (some ⟨B114, 0, none⟩) 0 0, .int .i64 to]) (cs' := #[.int .i64 k, .int .i64 l.s, .int .i64 l.v, .int .i64 0, .int .i64 0, .slice (some ⟨B110, 0, none⟩) 0 0, .slice (some ⟨B114, 0, none⟩) 0 0, .int .i64 to]) rt_31 rfl rfl rfl (by simp [Value.oneCell']) hN122.blk (Nat.le_of_ble_eq_true rfl) rfl ?_
 intro w127 hS128
 have hb129 := low1 hb126 hS128.grw (by omega)
 refine wpo_nil ?_
 refine wpf_seq ?_
 refine wpf_seq_region ?_
 refine wpo_move (v := .int .i64 k) rfl rfl ?_
 refine wpo_call (vs := [.int .i64 k]) gf_52 (args_cons rfl args_nil) rfl (l3Slots_c k _) ?_
 rintro _ w130 ⟨rfl, hg131⟩
 have hb132 := low0 hb129 hg131
 refine wpo_nil ?_
 refine wpf_condt rfl hk ?_
 refine wpf_region ?_
 refine wpo_make (g := Rt.cells) (z := Rt.zero) (c := 4) mk_28 rfl wide_rt (by omega) rfl rfl (by omega) (by omega) rfl ?_
 intro B133 w134 hN135
 have hlB133 := hN_ge hN135 hb132
 have k136 := (((k123.grown0 hN122.grw).gn hS128.grw).grown0 hg131)
 have lt_B101_B133 := hN_gtl hN135 (k136).lt
 have k137 := (((k124.grown0 hN122.grw).gn hS128.grw).grown0 hg131)
 have lt_B105_B133 := hN_gtl hN135 (k137).lt
 have k138 := (((k125.grown0 hN122.grw).gn hS128.grw).grown0 hg131)
 have lt_B110_B133 := hN_gtl hN135 (k138).lt
 have k139 := (((hN116.blk.grown0 hN122.grw).gn hS128.grw).grown0 hg131)
 have lt_B114_B133 := hN_gtl hN135 (k139).lt
 have k140 := (hS128.blk.grown0 hg131)
 have lt_B120_B133 := hN_gtl hN135 (k140).lt
 have hb141 := low0 hb132 hN135.grw
 refine wpo_fieldAddr (o' := 5) fo_31_4 rfl rfl rfl ?_
 have k142 := (k140.grown0 hN135.grw)
 refine wpo_store1 (v := .slice (some ⟨B133, 0, none⟩) 4 4) (cs' := #[.int .i64 k, .int .i64 l.s, .int .i64 l.v, .int .i64 0, .int .i64 0, .slice (some ⟨B133, 0, none⟩) 4 4, .slice (some ⟨B114, 0, none⟩) 0 0, .int .i64 to]) ot_28 rfl rfl rfl k142 (Nat.le_of_ble_eq_true rfl) rfl ?_
 intro w143 hS144
 have hb145 := low1 hb141 hS144.grw (by omega)
 refine wpo_nil ?_
 refine thn_n ?_
 refine wpf_seq ?_
 refine wpf_seq_region ?_
 refine wpo_loadn (vs := [.int .i64 k, .int .i64 l.s, .int .i64 l.v, .int .i64 0, .int .i64 0, .slice (some ⟨B133, 0, none⟩) 4 4, .slice (some ⟨B114, 0, none⟩) 0 0, .int .i64 to]) rt_31 rfl rfl (hS144.blk.rangeL 0 8 rfl) rfl ?_
 have k146 := (hN135.blk.gn hS144.grw)
 have k147 := ((k139.grown0 hN135.grw).gn hS144.grw)
 refine wpo_call (vs := [.agg #[.int .i64 k, .int .i64 l.s, .int .i64 l.v, .int .i64 0, .int .i64 0, .slice (some ⟨B133, 0, none⟩) 4 4, .slice (some ⟨B114, 0, none⟩) 0 0, .int .i64 to]]) gf_30 (args_cons rfl args_nil) rfl (sThingOk_c (⟨⟨k, l, 0, 0, zeros4, [], to⟩, some ⟨B133, 0, none⟩, 4, some ⟨B114, 0, none⟩, 0⟩ : MTh) _ (rows_sl wide_rt k146) (rows_sl wide_int k147) (by first | omega | exact Nat.le_of_ble_eq_true rfl | (simp only [List.length_nil, List.length_cons, List.length_append, List.length_replicate]; omega)) (by first | omega | exact Nat.le_of_ble_eq_true rfl | (simp only [List.length_nil, List.length_cons, List.length_append, List.length_replicate]; omega))) ?_
 rintro _ w148 ⟨rfl, hg149⟩
 have hb150 := low0 hb145 hg149
 refine wpo_not (b' := !thingOk (⟨k, l, 0, 0, zeros4, [], to⟩ : Th)) rfl rfl rfl ?_
 refine wpo_nil ?_
 refine wpf_condf rfl (not_of_t hlit) ?_
 refine wpf_skip ?_
 refine thn_n ?_
 refine wpf_seq_region ?_
 have k151 := (hS144.blk.grown0 hg149)
 refine wpo_loadn (vs := [.int .i64 k, .int .i64 l.s, .int .i64 l.v, .int .i64 0, .int .i64 0, .slice (some ⟨B133, 0, none⟩) 4 4, .slice (some ⟨B114, 0, none⟩) 0 0, .int .i64 to]) rt_31 rfl rfl (k151.rangeL 0 8 rfl) rfl ?_
 have k152 := (((k137.grown0 hN135.grw).gn hS144.grw).grown0 hg149)
 refine wpo_storen (vs := [.int .i64 k, .int .i64 l.s, .int .i64 l.v, .int .i64 0, .int .i64 0, .slice (some ⟨B133, 0, none⟩) 4 4, .slice (some ⟨B114, 0, none⟩) 0 0, .int .i64 to]) (cs' := #[.int .i64 k, .int .i64 l.s, .int .i64 l.v, .int .i64 0, .int .i64 0, .slice (some ⟨B133, 0, none⟩) 4 4, .slice (some ⟨B114, 0, none⟩) 0 0, .int .i64 to]) rt_31 rfl rfl rfl (by simp [Value.oneCell']) k152 (Nat.le_of_ble_eq_true rfl) rfl ?_
 intro w153 hS154
 have hb155 := low1 hb150 hS154.grw (by omega)
 refine wpo_assign (v := .bool true) rfl rfl ?_
 refine wpo_nil ?_
 refine wpf_ret ?_
 have k156 := ((k146.grown0 hg149).gn hS154.grw)
 have k157 := ((k147.grown0 hg149).gn hS154.grw)
 refine ⟨.tuple #[.agg #[.int .i64 k, .int .i64 l.s, .int .i64 l.v, .int .i64 0, .int .i64 0, .slice (some ⟨B133, 0, none⟩) 4 4, .slice (some ⟨B114, 0, none⟩) 0 0, .int .i64 to], .bool true], resCT rfl (resCell_mk (vs := [.int .i64 k, .int .i64 l.s, .int .i64 l.v, .int .i64 0, .int .i64 0, .slice (some ⟨B133, 0, none⟩) 4 4, .slice (some ⟨B114, 0, none⟩) 0 0, .int .i64 to]) rt_31 rfl rfl (hS154.blk.rangeL 0 8 rfl)) rfl, B133, 4, B114, 0, rfl, hlB133, (Own.rows wide_rt k156 (by decide)), hlB114, (Own.rows wide_int k157 (by decide)), (Nat.ne_of_gt lt_B114_B133), hb155⟩

theorem sThingNew_yf (k to : Int) (l : Lab) (hk : ((decide (k = 2)) || (decide (k = 3))) = true) (hok : newOk k l to = false) (w : World) : CallsR Tryd.prog 55 #[.int .i64 k, .agg #[.int .i64 l.s, .int .i64 l.v], .int .i64 to] w (fun v w' => v = .tuple #[.agg #[.int .i64 0, .int .i64 0, .int .i64 0, .int .i64 0, .int .i64 0, .slice none 0 0, .slice none 0 0, .int .i64 0], .bool false] ∧ w.grownBy w' none) := by
 refine calls_of_wpf (n := 24) Tryd.func55 rfl Tryd.ntmps55 rfl ?_
 have hb0 := World.grownBy.refl w none
 have hlit : thingOk (⟨k, l, 0, 0, zeros4, [], to⟩ : Th) = false := (newOk_y hk).symm.trans hok
 refine wpf_seq_region ?_
 refine wpo_box (v := .agg #[.int .i64 l.s, .int .i64 l.v]) (cs := #[.int .i64 l.s, .int .i64 l.v]) rfl rfl rfl ?_
 intro B101 w102 hN103
 have hlB101 := hN_ge hN103 hb0
 have hb104 := low0 hb0 hN103.grw
 refine wpo_alloc (cs := #[.int .i64 0, .int .i64 0, .int .i64 0, .int .i64 0, .int .i64 0, .slice none 0 0, .slice none 0 0, .int .i64 0]) zt_31 rfl rfl ?_
 intro B105 w106 hN107
 have hlB105 := hN_ge hN107 hb104
 have lt_B101_B105 := hN_gtl hN107 (hN103.blk).lt
 have hb108 := low0 hb104 hN107.grw
 refine wpo_assign (v := .bool false) rfl rfl ?_
 refine wpo_nil ?_
 refine wpf_seq_region ?_
 refine wpo_move (v := .int .i64 k) rfl rfl ?_
 have k109 := (hN103.blk.grown0 hN107.grw)
 refine wpo_loadn (vs := [.int .i64 l.s, .int .i64 l.v]) rt_27 rfl rfl (k109.rangeL 0 2 rfl) rfl ?_
 refine wpo_buildSlice (ps := []) (e := 39) (cs := (([] : List Rt).flatMap Rt.cells).toArray) parts_nil (fun _ => by kernel_rfl) rfl ?_
 intro B110 w111 hN112
 have hlB110 := hN_ge hN112 hb108
 have lt_B101_B110 := hN_gtl hN112 (k109).lt
 have lt_B105_B110 := hN_gtl hN112 (hN107.blk).lt
 have hb113 := low0 hb108 hN112.grw
 refine wpo_buildSlice (ps := []) (e := 3) (cs := (([] : List Int).flatMap icell).toArray) parts_nil (fun _ => by kernel_rfl) rfl ?_
 intro B114 w115 hN116
 have hlB114 := hN_ge hN116 hb113
 have k117 := (k109.grown0 hN112.grw)
 have lt_B101_B114 := hN_gtl hN116 (k117).lt
 have k118 := (hN107.blk.grown0 hN112.grw)
 have lt_B105_B114 := hN_gtl hN116 (k118).lt
 have lt_B110_B114 := hN_gtl hN116 (hN112.blk).lt
 have hb119 := low0 hb113 hN116.grw
 refine wpo_move (v := .int .i64 to) rfl rfl ?_
 refine wpo_build (ps := [(0, .int .i64 k), (1, .agg #[.int .i64 l.s, .int .i64 l.v]), (4, .slice (some ⟨B110, 0, none⟩) 0 0), (5, .slice (some ⟨B114, 0, none⟩) 0 0), (6, .int .i64 to)]) (v := .agg #[.int .i64 k, .int .i64 l.s, .int .i64 l.v, .int .i64 0, .int .i64 0, .slice (some ⟨B110, 0, none⟩) 0 0, .slice (some ⟨B114, 0, none⟩) 0 0, .int .i64 to]) (parts_cons rfl (parts_cons rfl (parts_cons rfl (parts_cons rfl (parts_cons rfl parts_nil))))) (by kernel_rfl) rfl ?_
 refine wpo_alloc (cs := #[.int .i64 0, .int .i64 0, .int .i64 0, .int .i64 0, .int .i64 0, .slice none 0 0, .slice none 0 0, .int .i64 0]) zt_31 rfl rfl ?_
 intro B120 w121 hN122
 have hlB120 := hN_ge hN122 hb119
 have k123 := (k117.grown0 hN116.grw)
 have lt_B101_B120 := hN_gtl hN122 (k123).lt
 have k124 := (k118.grown0 hN116.grw)
 have lt_B105_B120 := hN_gtl hN122 (k124).lt
 have k125 := (hN112.blk.grown0 hN116.grw)
 have lt_B110_B120 := hN_gtl hN122 (k125).lt
 have lt_B114_B120 := hN_gtl hN122 (hN116.blk).lt
 have hb126 := low0 hb119 hN122.grw
 refine wpo_storen (vs := [.int .i64 k, .int .i64 l.s, .int .i64 l.v, .int .i64 0, .int .i64 0, .slice (some ⟨B110, 0, none⟩) 0 0, .slice (some ⟨B114, 0, none⟩) 0 0, .int .i64 to]) (cs' := #[.int .i64 k, .int .i64 l.s, .int .i64 l.v, .int .i64 0, .int .i64 0, .slice (some ⟨B110, 0, none⟩) 0 0, .slice (some ⟨B114, 0, none⟩) 0 0, .int .i64 to]) rt_31 rfl rfl rfl (by simp [Value.oneCell']) hN122.blk (Nat.le_of_ble_eq_true rfl) rfl ?_
 intro w127 hS128
 have hb129 := low1 hb126 hS128.grw (by omega)
 refine wpo_nil ?_
 refine wpf_seq ?_
 refine wpf_seq_region ?_
 refine wpo_move (v := .int .i64 k) rfl rfl ?_
 refine wpo_call (vs := [.int .i64 k]) gf_52 (args_cons rfl args_nil) rfl (l3Slots_c k _) ?_
 rintro _ w130 ⟨rfl, hg131⟩
 have hb132 := low0 hb129 hg131
 refine wpo_nil ?_
 refine wpf_condt rfl hk ?_
 refine wpf_region ?_
 refine wpo_make (g := Rt.cells) (z := Rt.zero) (c := 4) mk_28 rfl wide_rt (by omega) rfl rfl (by omega) (by omega) rfl ?_
 intro B133 w134 hN135
 have hlB133 := hN_ge hN135 hb132
 have k136 := (((k123.grown0 hN122.grw).gn hS128.grw).grown0 hg131)
 have lt_B101_B133 := hN_gtl hN135 (k136).lt
 have k137 := (((k124.grown0 hN122.grw).gn hS128.grw).grown0 hg131)
 have lt_B105_B133 := hN_gtl hN135 (k137).lt
 have k138 := (((k125.grown0 hN122.grw).gn hS128.grw).grown0 hg131)
 have lt_B110_B133 := hN_gtl hN135 (k138).lt
 have k139 := (((hN116.blk.grown0 hN122.grw).gn hS128.grw).grown0 hg131)
 have lt_B114_B133 := hN_gtl hN135 (k139).lt
 have k140 := (hS128.blk.grown0 hg131)
 have lt_B120_B133 := hN_gtl hN135 (k140).lt
 have hb141 := low0 hb132 hN135.grw
 refine wpo_fieldAddr (o' := 5) fo_31_4 rfl rfl rfl ?_
 have k142 := (k140.grown0 hN135.grw)
 refine wpo_store1 (v := .slice (some ⟨B133, 0, none⟩) 4 4) (cs' := #[.int .i64 k, .int .i64 l.s, .int .i64 l.v, .int .i64 0, .int .i64 0, .slice (some ⟨B133, 0, none⟩) 4 4, .slice (some ⟨B114, 0, none⟩) 0 0, .int .i64 to]) ot_28 rfl rfl rfl k142 (Nat.le_of_ble_eq_true rfl) rfl ?_
 intro w143 hS144
 have hb145 := low1 hb141 hS144.grw (by omega)
 refine wpo_nil ?_
 refine thn_n ?_
 refine wpf_seq ?_
 refine wpf_seq_region ?_
 refine wpo_loadn (vs := [.int .i64 k, .int .i64 l.s, .int .i64 l.v, .int .i64 0, .int .i64 0, .slice (some ⟨B133, 0, none⟩) 4 4, .slice (some ⟨B114, 0, none⟩) 0 0, .int .i64 to]) rt_31 rfl rfl (hS144.blk.rangeL 0 8 rfl) rfl ?_
 have k146 := (hN135.blk.gn hS144.grw)
 have k147 := ((k139.grown0 hN135.grw).gn hS144.grw)
 refine wpo_call (vs := [.agg #[.int .i64 k, .int .i64 l.s, .int .i64 l.v, .int .i64 0, .int .i64 0, .slice (some ⟨B133, 0, none⟩) 4 4, .slice (some ⟨B114, 0, none⟩) 0 0, .int .i64 to]]) gf_30 (args_cons rfl args_nil) rfl (sThingOk_c (⟨⟨k, l, 0, 0, zeros4, [], to⟩, some ⟨B133, 0, none⟩, 4, some ⟨B114, 0, none⟩, 0⟩ : MTh) _ (rows_sl wide_rt k146) (rows_sl wide_int k147) (by first | omega | exact Nat.le_of_ble_eq_true rfl | (simp only [List.length_nil, List.length_cons, List.length_append, List.length_replicate]; omega)) (by first | omega | exact Nat.le_of_ble_eq_true rfl | (simp only [List.length_nil, List.length_cons, List.length_append, List.length_replicate]; omega))) ?_
 rintro _ w148 ⟨rfl, hg149⟩
 have hb150 := low0 hb145 hg149
 refine wpo_not (b' := !thingOk (⟨k, l, 0, 0, zeros4, [], to⟩ : Th)) rfl rfl rfl ?_
 refine wpo_nil ?_
 refine wpf_condt rfl (not_of_f hlit) ?_
 refine wpf_seq_region ?_
 refine wpo_build (ps := []) (v := .agg #[.int .i64 0, .int .i64 0, .int .i64 0, .int .i64 0, .int .i64 0, .slice none 0 0, .slice none 0 0, .int .i64 0]) parts_nil (by kernel_rfl) rfl ?_
 have k151 := (((k137.grown0 hN135.grw).gn hS144.grw).grown0 hg149)
 refine wpo_storen (vs := [.int .i64 0, .int .i64 0, .int .i64 0, .int .i64 0, .int .i64 0, .slice none 0 0, .slice none 0 0, .int .i64 0]) (cs' := #[.int .i64 0, .int .i64 0, .int .i64 0, .int .i64 0, .int .i64 0, .slice none 0 0, .slice none 0 0, .int .i64 0]) rt_31 rfl rfl rfl (by simp [Value.oneCell']) k151 (Nat.le_of_ble_eq_true rfl) rfl ?_
 intro w152 hS153
 have hb154 := low1 hb150 hS153.grw (by omega)
 refine wpo_assign (v := .bool false) rfl rfl ?_
 refine wpo_nil ?_
 refine wpf_ret ?_
 refine thn_r ?_
 refine ⟨.tuple #[.agg #[.int .i64 0, .int .i64 0, .int .i64 0, .int .i64 0, .int .i64 0, .slice none 0 0, .slice none 0 0, .int .i64 0], .bool false], resCT rfl (resCell_mk (vs := [.int .i64 0, .int .i64 0, .int .i64 0, .int .i64 0, .int .i64 0, .slice none 0 0, .slice none 0 0, .int .i64 0]) rt_31 rfl rfl (hS153.blk.rangeL 0 8 rfl)) rfl, rfl, hb154⟩

theorem sThingNew_nt (k to : Int) (l : Lab) (hk : ((decide (k = 2)) || (decide (k = 3))) = false) (hok : newOk k l to = true) (w : World) : CallsR Tryd.prog 55 #[.int .i64 k, .agg #[.int .i64 l.s, .int .i64 l.v], .int .i64 to] w (fun v w' => ∃ (S sc Q qc : Nat), v = .tuple #[.agg #[.int .i64 k, .int .i64 l.s, .int .i64 l.v, .int .i64 0, .int .i64 0, .slice (some ⟨S, 0, none⟩) 0 sc, .slice (some ⟨Q, 0, none⟩) 0 qc, .int .i64 to], .bool true] ∧ w.heap.size ≤ S ∧ Dw.Own w' S 39 5 sc 0 (([] : List Rt).flatMap Rt.cells) ∧ w.heap.size ≤ Q ∧ Dw.Own w' Q 3 1 qc 0 (([] : List Int).flatMap icell) ∧ S ≠ Q ∧ w.grownBy w' none) := by
 refine calls_of_wpf (n := 24) Tryd.func55 rfl Tryd.ntmps55 rfl ?_
 have hb0 := World.grownBy.refl w none
 have hlit : thingOk (⟨k, l, 0, 0, [], [], to⟩ : Th) = true := (newOk_n hk).symm.trans hok
 have h101 : decide (k = 2) = false := or_l hk
 have h102 : decide (k = 3) = false := or_r hk
 refine wpf_seq_region ?_
 refine wpo_box (v := .agg #[.int .i64 l.s, .int .i64 l.v]) (cs := #[.int .i64 l.s, .int .i64 l.v]) rfl rfl rfl ?_
 intro B103 w104 hN105
 have hlB103 := hN_ge hN105 hb0
 have hb106 := low0 hb0 hN105.grw
 refine wpo_alloc (cs := #[.int .i64 0, .int .i64 0, .int .i64 0, .int .i64 0, .int .i64 0, .slice none 0 0, .slice none 0 0, .int .i64 0]) zt_31 rfl rfl ?_
 intro B107 w108 hN109
 have hlB107 := hN_ge hN109 hb106
 have lt_B103_B107 := hN_gtl hN109 (hN105.blk).lt
 have hb110 := low0 hb106 hN109.grw
 refine wpo_assign (v := .bool false) rfl rfl ?_
 refine wpo_nil ?_
 refine wpf_seq_region ?_
 refine wpo_move (v := .int .i64 k) rfl rfl ?_
 have k111 := (hN105.blk.grown0 hN109.grw)
 refine wpo_loadn (vs := [.int .i64 l.s, .int .i64 l.v]) rt_27 rfl rfl (k111.rangeL 0 2 rfl) rfl ?_
 refine wpo_buildSlice (ps := []) (e := 39) (cs := (([] : List Rt).flatMap Rt.cells).toArray) parts_nil (fun _ => by kernel_rfl) rfl ?_
 intro B112 w113 hN114
 have hlB112 := hN_ge hN114 hb110
 have lt_B103_B112 := hN_gtl hN114 (k111).lt
 have lt_B107_B112 := hN_gtl hN114 (hN109.blk).lt
 have hb115 := low0 hb110 hN114.grw
 refine wpo_buildSlice (ps := []) (e := 3) (cs := (([] : List Int).flatMap icell).toArray) parts_nil (fun _ => by kernel_rfl) rfl ?_
 intro B116 w117 hN118
 have hlB116 := hN_ge hN118 hb115
 have k119 := (k111.grown0 hN114.grw)
 have lt_B103_B116 := hN_gtl hN118 (k119).lt
 have k120 := (hN109.blk.grown0 hN114.grw)
 have lt_B107_B116 := hN_gtl hN118 (k120).lt
 have lt_B112_B116 := hN_gtl hN118 (hN114.blk).lt
 have hb121 := low0 hb115 hN118.grw
 refine wpo_move (v := .int .i64 to) rfl rfl ?_
 refine wpo_build (ps := [(0, .int .i64 k), (1, .agg #[.int .i64 l.s, .int .i64 l.v]), (4, .slice (some ⟨B112, 0, none⟩) 0 0), (5, .slice (some ⟨B116, 0, none⟩) 0 0), (6, .int .i64 to)]) (v := .agg #[.int .i64 k, .int .i64 l.s, .int .i64 l.v, .int .i64 0, .int .i64 0, .slice (some ⟨B112, 0, none⟩) 0 0, .slice (some ⟨B116, 0, none⟩) 0 0, .int .i64 to]) (parts_cons rfl (parts_cons rfl (parts_cons rfl (parts_cons rfl (parts_cons rfl parts_nil))))) (by kernel_rfl) rfl ?_
 refine wpo_alloc (cs := #[.int .i64 0, .int .i64 0, .int .i64 0, .int .i64 0, .int .i64 0, .slice none 0 0, .slice none 0 0, .int .i64 0]) zt_31 rfl rfl ?_
 intro B122 w123 hN124
 have hlB122 := hN_ge hN124 hb121
 have k125 := (k119.grown0 hN118.grw)
 have lt_B103_B122 := hN_gtl hN124 (k125).lt
 have k126 := (k120.grown0 hN118.grw)
 have lt_B107_B122 := hN_gtl hN124 (k126).lt
 have k127 := (hN114.blk.grown0 hN118.grw)
 have lt_B112_B122 := hN_gtl hN124 (k127).lt
 have lt_B116_B122 := hN_gtl hN124 (hN118.blk).lt
 have hb128 := low0 hb121 hN124.grw
 refine wpo_storen (vs := [.int .i64 k, .int .i64 l.s, .int .i64 l.v, .int .i64 0, .int .i64 0, .slice (some ⟨B112, 0, none⟩) 0 0, .slice (some ⟨B116, 0, none⟩) 0 0, .int .i64 to]) (cs' := #[.int .i64 k, .int .i64 l.s, .int .i64 l.v, .int .i64 0, .int .i64 0, .slice (some ⟨B112, 0, none⟩) 0 0, .slice (some ⟨B116, 0, none⟩) 0 0, .int .i64 to]) rt_31 rfl rfl rfl (by simp [Value.oneCell']) hN124.blk (Nat.le_of_ble_eq_true rfl) rfl ?_
 intro w129 hS130
 have hb131 := low1 hb128 hS130.grw (by omega)
 refine wpo_nil ?_
 refine wpf_seq ?_
 refine wpf_seq_region ?_
 refine wpo_move (v := .int .i64 k) rfl rfl ?_
 refine wpo_call (vs := [.int .i64 k]) gf_52 (args_cons rfl args_nil) rfl (l3Slots_c k _) ?_
 rintro _ w132 ⟨rfl, hg133⟩
 have hb134 := low0 hb131 hg133
 refine wpo_nil ?_
 refine wpf_condf rfl hk ?_
 refine wpf_skip ?_
 refine thn_n ?_
 refine wpf_seq ?_
 refine wpf_seq_region ?_
 have k135 := (hS130.blk.grown0 hg133)
 refine wpo_loadn (vs := [.int .i64 k, .int .i64 l.s, .int .i64 l.v, .int .i64 0, .int .i64 0, .slice (some ⟨B112, 0, none⟩) 0 0, .slice (some ⟨B116, 0, none⟩) 0 0, .int .i64 to]) rt_31 rfl rfl (k135.rangeL 0 8 rfl) rfl ?_
 have k136 := (((k127.grown0 hN124.grw).gn hS130.grw).grown0 hg133)
 have k137 := (((hN118.blk.grown0 hN124.grw).gn hS130.grw).grown0 hg133)
 refine wpo_call (vs := [.agg #[.int .i64 k, .int .i64 l.s, .int .i64 l.v, .int .i64 0, .int .i64 0, .slice (some ⟨B112, 0, none⟩) 0 0, .slice (some ⟨B116, 0, none⟩) 0 0, .int .i64 to]]) gf_30 (args_cons rfl args_nil) rfl (sThingOk_c (⟨⟨k, l, 0, 0, [], [], to⟩, some ⟨B112, 0, none⟩, 0, some ⟨B116, 0, none⟩, 0⟩ : MTh) _ (rows_sl wide_rt k136) (rows_sl wide_int k137) (by first | omega | exact Nat.le_of_ble_eq_true rfl | (simp only [List.length_nil, List.length_cons, List.length_append, List.length_replicate]; omega)) (by first | omega | exact Nat.le_of_ble_eq_true rfl | (simp only [List.length_nil, List.length_cons, List.length_append, List.length_replicate]; omega))) ?_
 rintro _ w138 ⟨rfl, hg139⟩
 have hb140 := low0 hb134 hg139
 refine wpo_not (b' := !thingOk (⟨k, l, 0, 0, [], [], to⟩ : Th)) rfl rfl rfl ?_
 refine wpo_nil ?_
 refine wpf_condf rfl (not_of_t hlit) ?_
 refine wpf_skip ?_
 refine thn_n ?_
 refine wpf_seq_region ?_
 have k141 := (k135.grown0 hg139)
 refine wpo_loadn (vs := [.int .i64 k, .int .i64 l.s, .int .i64 l.v, .int .i64 0, .int .i64 0, .slice (some ⟨B112, 0, none⟩) 0 0, .slice (some ⟨B116, 0, none⟩) 0 0, .int .i64 to]) rt_31 rfl rfl (k141.rangeL 0 8 rfl) rfl ?_
 have k142 := ((((k126.grown0 hN124.grw).gn hS130.grw).grown0 hg133).grown0 hg139)
 refine wpo_storen (vs := [.int .i64 k, .int .i64 l.s, .int .i64 l.v, .int .i64 0, .int .i64 0, .slice (some ⟨B112, 0, none⟩) 0 0, .slice (some ⟨B116, 0, none⟩) 0 0, .int .i64 to]) (cs' := #[.int .i64 k, .int .i64 l.s, .int .i64 l.v, .int .i64 0, .int .i64 0, .slice (some ⟨B112, 0, none⟩) 0 0, .slice (some ⟨B116, 0, none⟩) 0 0, .int .i64 to]) rt_31 rfl rfl rfl (by simp [Value.oneCell']) k142 (Nat.le_of_ble_eq_true rfl) rfl ?_
 intro w143 hS144
 have hb145 := low1 hb140 hS144.grw (by omega)
 refine wpo_assign (v := .bool true) rfl rfl ?_
 refine wpo_nil ?_
 refine wpf_ret ?_
 have k146 := ((k136.grown0 hg139).gn hS144.grw)
 have k147 := ((k137.grown0 hg139).gn hS144.grw)
 refine ⟨.tuple #[.agg #[.int .i64 k, .int .i64 l.s, .int .i64 l.v, .int .i64 0, .int .i64 0, .slice (some ⟨B112, 0, none⟩) 0 0, .slice (some ⟨B116, 0, none⟩) 0 0, .int .i64 to], .bool true], resCT rfl (resCell_mk (vs := [.int .i64 k, .int .i64 l.s, .int .i64 l.v, .int .i64 0, .int .i64 0, .slice (some ⟨B112, 0, none⟩) 0 0, .slice (some ⟨B116, 0, none⟩) 0 0, .int .i64 to]) rt_31 rfl rfl (hS144.blk.rangeL 0 8 rfl)) rfl, B112, 0, B116, 0, rfl, hlB112, (Own.rows wide_rt k146 (by decide)), hlB116, (Own.rows wide_int k147 (by decide)), (Nat.ne_of_lt lt_B112_B116), hb145⟩

theorem sThingNew_nf (k to : Int) (l : Lab) (hk : ((decide (k = 2)) || (decide (k = 3))) = false) (hok : newOk k l to = false) (w : World) : CallsR Tryd.prog 55 #[.int .i64 k, .agg #[.int .i64 l.s, .int .i64 l.v], .int .i64 to] w (fun v w' => v = .tuple #[.agg #[.int .i64 0, .int .i64 0, .int .i64 0, .int .i64 0, .int .i64 0, .slice none 0 0, .slice none 0 0, .int .i64 0], .bool false] ∧ w.grownBy w' none) := by
 refine calls_of_wpf (n := 24) Tryd.func55 rfl Tryd.ntmps55 rfl ?_
 have hb0 := World.grownBy.refl w none
 have hlit : thingOk (⟨k, l, 0, 0, [], [], to⟩ : Th) = false := (newOk_n hk).symm.trans hok
 have h101 : decide (k = 2) = false := or_l hk
 have h102 : decide (k = 3) = false := or_r hk
 refine wpf_seq_region ?_
 refine wpo_box (v := .agg #[.int .i64 l.s, .int .i64 l.v]) (cs := #[.int .i64 l.s, .int .i64 l.v]) rfl rfl rfl ?_
 intro B103 w104 hN105
 have hlB103 := hN_ge hN105 hb0
 have hb106 := low0 hb0 hN105.grw
 refine wpo_alloc (cs := #[.int .i64 0, .int .i64 0, .int .i64 0, .int .i64 0, .int .i64 0, .slice none 0 0, .slice none 0 0, .int .i64 0]) zt_31 rfl rfl ?_
 intro B107 w108 hN109
 have hlB107 := hN_ge hN109 hb106
 have lt_B103_B107 := hN_gtl hN109 (hN105.blk).lt
 have hb110 := low0 hb106 hN109.grw
 refine wpo_assign (v := .bool false) rfl rfl ?_
 refine wpo_nil ?_
 refine wpf_seq_region ?_
 refine wpo_move (v := .int .i64 k) rfl rfl ?_
 have k111 := (hN105.blk.grown0 hN109.grw)
 refine wpo_loadn (vs := [.int .i64 l.s, .int .i64 l.v]) rt_27 rfl rfl (k111.rangeL 0 2 rfl) rfl ?_
 refine wpo_buildSlice (ps := []) (e := 39) (cs := (([] : List Rt).flatMap Rt.cells).toArray) parts_nil (fun _ => by kernel_rfl) rfl ?_
 intro B112 w113 hN114
 have hlB112 := hN_ge hN114 hb110
 have lt_B103_B112 := hN_gtl hN114 (k111).lt
 have lt_B107_B112 := hN_gtl hN114 (hN109.blk).lt
 have hb115 := low0 hb110 hN114.grw
 refine wpo_buildSlice (ps := []) (e := 3) (cs := (([] : List Int).flatMap icell).toArray) parts_nil (fun _ => by kernel_rfl) rfl ?_
 intro B116 w117 hN118
 have hlB116 := hN_ge hN118 hb115
 have k119 := (k111.grown0 hN114.grw)
 have lt_B103_B116 := hN_gtl hN118 (k119).lt
 have k120 := (hN109.blk.grown0 hN114.grw)
 have lt_B107_B116 := hN_gtl hN118 (k120).lt
 have lt_B112_B116 := hN_gtl hN118 (hN114.blk).lt
 have hb121 := low0 hb115 hN118.grw
 refine wpo_move (v := .int .i64 to) rfl rfl ?_
 refine wpo_build (ps := [(0, .int .i64 k), (1, .agg #[.int .i64 l.s, .int .i64 l.v]), (4, .slice (some ⟨B112, 0, none⟩) 0 0), (5, .slice (some ⟨B116, 0, none⟩) 0 0), (6, .int .i64 to)]) (v := .agg #[.int .i64 k, .int .i64 l.s, .int .i64 l.v, .int .i64 0, .int .i64 0, .slice (some ⟨B112, 0, none⟩) 0 0, .slice (some ⟨B116, 0, none⟩) 0 0, .int .i64 to]) (parts_cons rfl (parts_cons rfl (parts_cons rfl (parts_cons rfl (parts_cons rfl parts_nil))))) (by kernel_rfl) rfl ?_
 refine wpo_alloc (cs := #[.int .i64 0, .int .i64 0, .int .i64 0, .int .i64 0, .int .i64 0, .slice none 0 0, .slice none 0 0, .int .i64 0]) zt_31 rfl rfl ?_
 intro B122 w123 hN124
 have hlB122 := hN_ge hN124 hb121
 have k125 := (k119.grown0 hN118.grw)
 have lt_B103_B122 := hN_gtl hN124 (k125).lt
 have k126 := (k120.grown0 hN118.grw)
 have lt_B107_B122 := hN_gtl hN124 (k126).lt
 have k127 := (hN114.blk.grown0 hN118.grw)
 have lt_B112_B122 := hN_gtl hN124 (k127).lt
 have lt_B116_B122 := hN_gtl hN124 (hN118.blk).lt
 have hb128 := low0 hb121 hN124.grw
 refine wpo_storen (vs := [.int .i64 k, .int .i64 l.s, .int .i64 l.v, .int .i64 0, .int .i64 0, .slice (some ⟨B112, 0, none⟩) 0 0, .slice (some ⟨B116, 0, none⟩) 0 0, .int .i64 to]) (cs' := #[.int .i64 k, .int .i64 l.s, .int .i64 l.v, .int .i64 0, .int .i64 0, .slice (some ⟨B112, 0, none⟩) 0 0, .slice (some ⟨B116, 0, none⟩) 0 0, .int .i64 to]) rt_31 rfl rfl rfl (by simp [Value.oneCell']) hN124.blk (Nat.le_of_ble_eq_true rfl) rfl ?_
 intro w129 hS130
 have hb131 := low1 hb128 hS130.grw (by omega)
 refine wpo_nil ?_
 refine wpf_seq ?_
 refine wpf_seq_region ?_
 refine wpo_move (v := .int .i64 k) rfl rfl ?_
 refine wpo_call (vs := [.int .i64 k]) gf_52 (args_cons rfl args_nil) rfl (l3Slots_c k _) ?_
 rintro _ w132 ⟨rfl, hg133⟩
 have hb134 := low0 hb131 hg133
 refine wpo_nil ?_
 refine wpf_condf rfl hk ?_
 refine wpf_skip ?_
 refine thn_n ?_
 refine wpf_seq ?_
 refine wpf_seq_region ?_
 have k135 := (hS130.blk.grown0 hg133)
 refine wpo_loadn (vs := [.int .i64 k, .int .i64 l.s, .int .i64 l.v, .int .i64 0, .int .i64 0, .slice (some ⟨B112, 0, none⟩) 0 0, .slice (some ⟨B116, 0, none⟩) 0 0, .int .i64 to]) rt_31 rfl rfl (k135.rangeL 0 8 rfl) rfl ?_
 have k136 := (((k127.grown0 hN124.grw).gn hS130.grw).grown0 hg133)
 have k137 := (((hN118.blk.grown0 hN124.grw).gn hS130.grw).grown0 hg133)
 refine wpo_call (vs := [.agg #[.int .i64 k, .int .i64 l.s, .int .i64 l.v, .int .i64 0, .int .i64 0, .slice (some ⟨B112, 0, none⟩) 0 0, .slice (some ⟨B116, 0, none⟩) 0 0, .int .i64 to]]) gf_30 (args_cons rfl args_nil) rfl (sThingOk_c (⟨⟨k, l, 0, 0, [], [], to⟩, some ⟨B112, 0, none⟩, 0, some ⟨B116, 0, none⟩, 0⟩ : MTh) _ (rows_sl wide_rt k136) (rows_sl wide_int k137) (by first | omega | exact Nat.le_of_ble_eq_true rfl | (simp only [List.length_nil, List.length_cons, List.length_append, List.length_replicate]; omega)) (by first | omega | exact Nat.le_of_ble_eq_true rfl | (simp only [List.length_nil, List.length_cons, List.length_append, List.length_replicate]; omega))) ?_
 rintro _ w138 ⟨rfl, hg139⟩
 have hb140 := low0 hb134 hg139
 refine wpo_not (b' := !thingOk (⟨k, l, 0, 0, [], [], to⟩ : Th)) rfl rfl rfl ?_
 refine wpo_nil ?_
 refine wpf_condt rfl (not_of_f hlit) ?_
 refine wpf_seq_region ?_
 refine wpo_build (ps := []) (v := .agg #[.int .i64 0, .int .i64 0, .int .i64 0, .int .i64 0, .int .i64 0, .slice none 0 0, .slice none 0 0, .int .i64 0]) parts_nil (by kernel_rfl) rfl ?_
 have k141 := ((((k126.grown0 hN124.grw).gn hS130.grw).grown0 hg133).grown0 hg139)
 refine wpo_storen (vs := [.int .i64 0, .int .i64 0, .int .i64 0, .int .i64 0, .int .i64 0, .slice none 0 0, .slice none 0 0, .int .i64 0]) (cs' := #[.int .i64 0, .int .i64 0, .int .i64 0, .int .i64 0, .int .i64 0, .slice none 0 0, .slice none 0 0, .int .i64 0]) rt_31 rfl rfl rfl (by simp [Value.oneCell']) k141 (Nat.le_of_ble_eq_true rfl) rfl ?_
 intro w142 hS143
 have hb144 := low1 hb140 hS143.grw (by omega)
 refine wpo_assign (v := .bool false) rfl rfl ?_
 refine wpo_nil ?_
 refine wpf_ret ?_
 refine thn_r ?_
 refine ⟨.tuple #[.agg #[.int .i64 0, .int .i64 0, .int .i64 0, .int .i64 0, .int .i64 0, .slice none 0 0, .slice none 0 0, .int .i64 0], .bool false], resCT rfl (resCell_mk (vs := [.int .i64 0, .int .i64 0, .int .i64 0, .int .i64 0, .int .i64 0, .slice none 0 0, .slice none 0 0, .int .i64 0]) rt_31 rfl rfl (hS143.blk.rangeL 0 8 rfl)) rfl, rfl, hb144⟩

end Go.Proofs.YtemimomfjapgiaaDoor
