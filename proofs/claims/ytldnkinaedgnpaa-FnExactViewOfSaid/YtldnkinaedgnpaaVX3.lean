/- Laws and walks: my templates, and what a program of mine (gen.py) printed out of the functions; only what the row reaches. -/
import Derived.Test.YtldnkinaedgnpaaVX2
section
namespace Go.Dw.J
open Go.RowKit Go.Dw Go.Proofs
set_option linter.unusedSectionVars false
set_option maxRecDepth 100000
set_option maxHeartbeats 4000000
set_option linter.unusedSimpArgs false
set_option linter.unusedVariables false
theorem ThingNew_yt [Comp] (k to : Int) (l : Lab) (hk : ((decide (k = 2)) || (decide (k = 3))) = true) (hok : newOk k l to = true) (w : World) : CallsR Try.prog 17 #[.int .i64 k, .agg #[.int .i64 l.s, .int .i64 l.v], .int .i64 to] w (fun v w' => ∃ (S sc : Nat), v = .tuple #[.agg #[.int .i64 k, .int .i64 l.s, .int .i64 l.v, .int .i64 0, .int .i64 0, .slice (some ⟨S, 0, none⟩) 4 sc, .slice none 0 0, .int .i64 to], .bool true] ∧ w.heap.size ≤ S ∧ Dw.Own w' S 74 5 sc 4 (zeros4.flatMap Rt.cells) ∧ w.grownBy w' none) := by
 refine calls_of_wpf (n := 27) Try.func17 rfl Try.ntmps17 rfl ?_
 have hb0 := World.grownBy.refl w none
 have hlit : thingOk (⟨k, l, 0, 0, zeros4, [], to⟩ : Th) = true := (newOk_y hk).symm.trans hok
 refine wpf_seq_region ?_
 refine wpo_box (v := .agg #[.int .i64 l.s, .int .i64 l.v]) (cs := #[.int .i64 l.s, .int .i64 l.v]) rfl rfl rfl ?_
 intro B101 w102 hN103
 have hlB101 := hN_ge hN103 hb0
 have hb104 := low0 hb0 hN103.grw
 refine wpo_alloc (cs := #[.int .i64 0, .int .i64 0, .int .i64 0, .int .i64 0, .int .i64 0, .slice none 0 0, .slice none 0 0, .int .i64 0]) zt_35 rfl rfl ?_
 intro B105 w106 hN107
 have hlB105 := hN_ge hN107 hb104
 have lt_B101_B105 := hN_gtl hN107 (hN103.blk).lt
 have hb108 := low0 hb104 hN107.grw
 refine wpo_assign (v := .bool false) rfl rfl ?_
 refine wpo_nil ?_
 refine wpf_seq_region ?_
 refine wpo_move (v := .int .i64 k) rfl rfl ?_
 have k109 := (hN103.blk.grown0 hN107.grw)
 refine wpo_loadn (vs := [.int .i64 l.s, .int .i64 l.v]) rt_25 rfl rfl (k109.rangeL 0 2 rfl) rfl ?_
 refine wpo_move (v := .int .i64 to) rfl rfl ?_
 refine wpo_build (ps := [(0, .int .i64 k), (1, .agg #[.int .i64 l.s, .int .i64 l.v]), (6, .int .i64 to)]) (v := .agg #[.int .i64 k, .int .i64 l.s, .int .i64 l.v, .int .i64 0, .int .i64 0, .slice none 0 0, .slice none 0 0, .int .i64 to]) (parts_cons rfl (parts_cons rfl (parts_cons rfl parts_nil))) (fun _ => by kernel_rfl) rfl ?_
 refine wpo_alloc (cs := #[.int .i64 0, .int .i64 0, .int .i64 0, .int .i64 0, .int .i64 0, .slice none 0 0, .slice none 0 0, .int .i64 0]) zt_35 rfl rfl ?_
 intro B110 w111 hN112
 have hlB110 := hN_ge hN112 hb108
 have lt_B101_B110 := hN_gtl hN112 (k109).lt
 have lt_B105_B110 := hN_gtl hN112 (hN107.blk).lt
 have hb113 := low0 hb108 hN112.grw
 refine wpo_storen (vs := [.int .i64 k, .int .i64 l.s, .int .i64 l.v, .int .i64 0, .int .i64 0, .slice none 0 0, .slice none 0 0, .int .i64 to]) (cs' := #[.int .i64 k, .int .i64 l.s, .int .i64 l.v, .int .i64 0, .int .i64 0, .slice none 0 0, .slice none 0 0, .int .i64 to]) rt_35 rfl rfl rfl (by simp [Value.oneCell']) hN112.blk (Nat.le_of_ble_eq_true rfl) rfl ?_
 intro w114 hS115
 have hb116 := low1 hb113 hS115.grw (by omega)
 refine wpo_nil ?_
 refine wpf_seq ?_
 refine wpf_seq_region_mid (fun f' w' => (f' 6 = .pointer (some ⟨B105, 0, none⟩) ∧ f' 7 = .bool false ∧ f' 8 = .pointer (some ⟨B110, 0, none⟩) ∧ f' 18 = .bool ((decide (k = 2)) || (decide (k = 3)))) ∧ w114 = w') ?_ ?_
 ·
  refine wpo_move (v := .int .i64 k) rfl rfl ?_
  refine wpo_eql (q := decide (k = 2)) rfl rfl rfl rfl ?_
  refine wpo_move (v := .bool (decide (k = 2))) rfl rfl ?_
  rcases bcases (decide (k = 2)) with h117 | h117
  ·
   have h118 := of_decide_eq_true h117
   refine wpo_pass rfl rfl rfl h117 rfl ?_
   refine wpo_pass rfl rfl rfl h117 rfl ?_
   refine wpo_pickt (v := .bool true) rfl h117 rfl rfl ?_
   exact wpo_nil ⟨⟨rfl, rfl, rfl, (congrArg Value.bool (by first | (simp only [h117, hk, hlit, b0, b1, b2, b3, b4, b5, b6, b7, b8, b9]; done) | simp [h117, hk, hlit]))⟩, rfl⟩
  ·
   have h119 := of_decide_eq_false h117
   refine wpo_run rfl rfl rfl h117 ?_
   refine wpo_move (v := .int .i64 k) rfl rfl ?_
   refine wpo_run rfl rfl rfl h117 ?_
   refine wpo_eql (q := decide (k = 3)) rfl rfl rfl rfl ?_
   refine wpo_pickf (v := .bool (decide (k = 3))) rfl h117 rfl rfl ?_
   exact wpo_nil ⟨⟨rfl, rfl, rfl, (congrArg Value.bool (by first | (simp only [h117, hk, hlit, b0, b1, b2, b3, b4, b5, b6, b7, b8, b9]; done) | simp [h117, hk, hlit]))⟩, rfl⟩
 ·
  rintro f120 w121 ⟨⟨e122, e123, e124, e125⟩, rfl⟩
  refine wpf_condt e125 hk ?_
  refine wpf_region ?_
  refine wpo_build (ps := []) (v := .agg #[.int .i64 0, .int .i64 0, .bool false, .bool false, .bool false, .int .i64 0, .int .i64 0, .bool false, .bool false, .bool false, .int .i64 0, .int .i64 0, .bool false, .bool false, .bool false, .int .i64 0, .int .i64 0, .bool false, .bool false, .bool false]) parts_nil (fun _ => by kernel_rfl) rfl ?_
  have k126 := ((k109.grown0 hN112.grw).gn hS115.grw)
  have k127 := ((hN107.blk.grown0 hN112.grw).gn hS115.grw)
  refine wpo_call (vs := [.agg #[.int .i64 0, .int .i64 0, .bool false, .bool false, .bool false, .int .i64 0, .int .i64 0, .bool false, .bool false, .bool false, .int .i64 0, .int .i64 0, .bool false, .bool false, .bool false, .int .i64 0, .int .i64 0, .bool false, .bool false, .bool false]]) gf_47 (args_cons rfl args_nil) rfl (list4_c _) ?_
  rintro _ w133 ⟨B128, cap129, rfl, hge130, hO131, hg132⟩
  have hb134 := low0 hb116 hg132
  have hlB128 := Nat.le_trans hb116.size hge130
  have lt_B101_B128 := Nat.lt_of_lt_of_le (k126).lt hge130
  have lt_B105_B128 := Nat.lt_of_lt_of_le (k127).lt hge130
  have lt_B110_B128 := Nat.lt_of_lt_of_le (hS115.blk).lt hge130
  refine wpo_fieldAddr (o' := 5) fo_35_4 e124 rfl rfl ?_
  have k135 := (hS115.blk.grown0 hg132)
  refine wpo_store1 (v := .slice (some ⟨B128, 0, none⟩) 4 cap129) (cs' := #[.int .i64 k, .int .i64 l.s, .int .i64 l.v, .int .i64 0, .int .i64 0, .slice (some ⟨B128, 0, none⟩) 4 cap129, .slice none 0 0, .int .i64 to]) ot_32 rfl rfl rfl k135 (Nat.le_of_ble_eq_true rfl) rfl ?_
  intro w136 hS137
  have hb138 := low1 hb134 hS137.grw (by omega)
  refine wpo_nil ?_
  refine thn_n ?_
  refine wpf_seq ?_
  refine wpf_seq_region ?_
  refine wpo_loadn (vs := [.int .i64 k, .int .i64 l.s, .int .i64 l.v, .int .i64 0, .int .i64 0, .slice (some ⟨B128, 0, none⟩) 4 cap129, .slice none 0 0, .int .i64 to]) rt_35 e124 rfl (hS137.blk.rangeL 0 8 rfl) rfl ?_
  have k139 := (hO131.gn hS137.grw)
  refine wpo_call (vs := [.agg #[.int .i64 k, .int .i64 l.s, .int .i64 l.v, .int .i64 0, .int .i64 0, .slice (some ⟨B128, 0, none⟩) 4 cap129, .slice none 0 0, .int .i64 to]]) gf_20 (args_cons rfl args_nil) rfl (ThingOk_c (⟨⟨k, l, 0, 0, zeros4, [], to⟩, some ⟨B128, 0, none⟩, cap129, none, 0⟩ : MTh) _ (Own.sl wide_rt k139) SlAt.nil (by first | omega | exact Nat.le_of_ble_eq_true rfl | (simp only [List.length_nil, List.length_cons, List.length_append, List.length_replicate]; omega)) (by first | omega | exact Nat.le_of_ble_eq_true rfl | (simp only [List.length_nil, List.length_cons, List.length_append, List.length_replicate]; omega))) ?_
  rintro _ w140 ⟨rfl, hg141⟩
  have hb142 := low0 hb138 hg141
  refine wpo_not (b' := !thingOk (⟨k, l, 0, 0, zeros4, [], to⟩ : Th)) rfl rfl rfl ?_
  refine wpo_nil ?_
  refine wpf_condf rfl (not_of_t hlit) ?_
  refine wpf_skip ?_
  refine thn_n ?_
  refine wpf_seq_region ?_
  have k143 := (hS137.blk.grown0 hg141)
  refine wpo_loadn (vs := [.int .i64 k, .int .i64 l.s, .int .i64 l.v, .int .i64 0, .int .i64 0, .slice (some ⟨B128, 0, none⟩) 4 cap129, .slice none 0 0, .int .i64 to]) rt_35 e124 rfl (k143.rangeL 0 8 rfl) rfl ?_
  have k144 := (((k127.grown0 hg132).gn hS137.grw).grown0 hg141)
  refine wpo_storen (vs := [.int .i64 k, .int .i64 l.s, .int .i64 l.v, .int .i64 0, .int .i64 0, .slice (some ⟨B128, 0, none⟩) 4 cap129, .slice none 0 0, .int .i64 to]) (cs' := #[.int .i64 k, .int .i64 l.s, .int .i64 l.v, .int .i64 0, .int .i64 0, .slice (some ⟨B128, 0, none⟩) 4 cap129, .slice none 0 0, .int .i64 to]) rt_35 e122 rfl rfl (by simp [Value.oneCell']) k144 (Nat.le_of_ble_eq_true rfl) rfl ?_
  intro w145 hS146
  have hb147 := low1 hb142 hS146.grw (by omega)
  refine wpo_assign (v := .bool true) rfl rfl ?_
  refine wpo_nil ?_
  refine wpf_ret ?_
  have k148 := ((k139.grown0 hg141).gn hS146.grw)
  refine ⟨.tuple #[.agg #[.int .i64 k, .int .i64 l.s, .int .i64 l.v, .int .i64 0, .int .i64 0, .slice (some ⟨B128, 0, none⟩) 4 cap129, .slice none 0 0, .int .i64 to], .bool true], resCT rfl (resCell_mk (vs := [.int .i64 k, .int .i64 l.s, .int .i64 l.v, .int .i64 0, .int .i64 0, .slice (some ⟨B128, 0, none⟩) 4 cap129, .slice none 0 0, .int .i64 to]) rt_35 e122 rfl (hS146.blk.rangeL 0 8 rfl)) rfl, B128, cap129, rfl, hlB128, k148, hb147⟩
theorem ThingNew_yf [Comp] (k to : Int) (l : Lab) (hk : ((decide (k = 2)) || (decide (k = 3))) = true) (hok : newOk k l to = false) (w : World) : CallsR Try.prog 17 #[.int .i64 k, .agg #[.int .i64 l.s, .int .i64 l.v], .int .i64 to] w (fun v w' => v = .tuple #[.agg #[.int .i64 0, .int .i64 0, .int .i64 0, .int .i64 0, .int .i64 0, .slice none 0 0, .slice none 0 0, .int .i64 0], .bool false] ∧ w.grownBy w' none) := by
 refine calls_of_wpf (n := 27) Try.func17 rfl Try.ntmps17 rfl ?_
 have hb0 := World.grownBy.refl w none
 have hlit : thingOk (⟨k, l, 0, 0, zeros4, [], to⟩ : Th) = false := (newOk_y hk).symm.trans hok
 refine wpf_seq_region ?_
 refine wpo_box (v := .agg #[.int .i64 l.s, .int .i64 l.v]) (cs := #[.int .i64 l.s, .int .i64 l.v]) rfl rfl rfl ?_
 intro B101 w102 hN103
 have hlB101 := hN_ge hN103 hb0
 have hb104 := low0 hb0 hN103.grw
 refine wpo_alloc (cs := #[.int .i64 0, .int .i64 0, .int .i64 0, .int .i64 0, .int .i64 0, .slice none 0 0, .slice none 0 0, .int .i64 0]) zt_35 rfl rfl ?_
 intro B105 w106 hN107
 have hlB105 := hN_ge hN107 hb104
 have lt_B101_B105 := hN_gtl hN107 (hN103.blk).lt
 have hb108 := low0 hb104 hN107.grw
 refine wpo_assign (v := .bool false) rfl rfl ?_
 refine wpo_nil ?_
 refine wpf_seq_region ?_
 refine wpo_move (v := .int .i64 k) rfl rfl ?_
 have k109 := (hN103.blk.grown0 hN107.grw)
 refine wpo_loadn (vs := [.int .i64 l.s, .int .i64 l.v]) rt_25 rfl rfl (k109.rangeL 0 2 rfl) rfl ?_
 refine wpo_move (v := .int .i64 to) rfl rfl ?_
 refine wpo_build (ps := [(0, .int .i64 k), (1, .agg #[.int .i64 l.s, .int .i64 l.v]), (6, .int .i64 to)]) (v := .agg #[.int .i64 k, .int .i64 l.s, .int .i64 l.v, .int .i64 0, .int .i64 0, .slice none 0 0, .slice none 0 0, .int .i64 to]) (parts_cons rfl (parts_cons rfl (parts_cons rfl parts_nil))) (fun _ => by kernel_rfl) rfl ?_
 refine wpo_alloc (cs := #[.int .i64 0, .int .i64 0, .int .i64 0, .int .i64 0, .int .i64 0, .slice none 0 0, .slice none 0 0, .int .i64 0]) zt_35 rfl rfl ?_
 intro B110 w111 hN112
 have hlB110 := hN_ge hN112 hb108
 have lt_B101_B110 := hN_gtl hN112 (k109).lt
 have lt_B105_B110 := hN_gtl hN112 (hN107.blk).lt
 have hb113 := low0 hb108 hN112.grw
 refine wpo_storen (vs := [.int .i64 k, .int .i64 l.s, .int .i64 l.v, .int .i64 0, .int .i64 0, .slice none 0 0, .slice none 0 0, .int .i64 to]) (cs' := #[.int .i64 k, .int .i64 l.s, .int .i64 l.v, .int .i64 0, .int .i64 0, .slice none 0 0, .slice none 0 0, .int .i64 to]) rt_35 rfl rfl rfl (by simp [Value.oneCell']) hN112.blk (Nat.le_of_ble_eq_true rfl) rfl ?_
 intro w114 hS115
 have hb116 := low1 hb113 hS115.grw (by omega)
 refine wpo_nil ?_
 refine wpf_seq ?_
 refine wpf_seq_region_mid (fun f' w' => (f' 6 = .pointer (some ⟨B105, 0, none⟩) ∧ f' 7 = .bool false ∧ f' 8 = .pointer (some ⟨B110, 0, none⟩) ∧ f' 18 = .bool ((decide (k = 2)) || (decide (k = 3)))) ∧ w114 = w') ?_ ?_
 ·
  refine wpo_move (v := .int .i64 k) rfl rfl ?_
  refine wpo_eql (q := decide (k = 2)) rfl rfl rfl rfl ?_
  refine wpo_move (v := .bool (decide (k = 2))) rfl rfl ?_
  rcases bcases (decide (k = 2)) with h117 | h117
  ·
   have h118 := of_decide_eq_true h117
   refine wpo_pass rfl rfl rfl h117 rfl ?_
   refine wpo_pass rfl rfl rfl h117 rfl ?_
   refine wpo_pickt (v := .bool true) rfl h117 rfl rfl ?_
   exact wpo_nil ⟨⟨rfl, rfl, rfl, (congrArg Value.bool (by first | (simp only [h117, hk, hlit, b0, b1, b2, b3, b4, b5, b6, b7, b8, b9]; done) | simp [h117, hk, hlit]))⟩, rfl⟩
  ·
   have h119 := of_decide_eq_false h117
   refine wpo_run rfl rfl rfl h117 ?_
   refine wpo_move (v := .int .i64 k) rfl rfl ?_
   refine wpo_run rfl rfl rfl h117 ?_
   refine wpo_eql (q := decide (k = 3)) rfl rfl rfl rfl ?_
   refine wpo_pickf (v := .bool (decide (k = 3))) rfl h117 rfl rfl ?_
   exact wpo_nil ⟨⟨rfl, rfl, rfl, (congrArg Value.bool (by first | (simp only [h117, hk, hlit, b0, b1, b2, b3, b4, b5, b6, b7, b8, b9]; done) | simp [h117, hk, hlit]))⟩, rfl⟩
 ·
  rintro f120 w121 ⟨⟨e122, e123, e124, e125⟩, rfl⟩
  refine wpf_condt e125 hk ?_
  refine wpf_region ?_
  refine wpo_build (ps := []) (v := .agg #[.int .i64 0, .int .i64 0, .bool false, .bool false, .bool false, .int .i64 0, .int .i64 0, .bool false, .bool false, .bool false, .int .i64 0, .int .i64 0, .bool false, .bool false, .bool false, .int .i64 0, .int .i64 0, .bool false, .bool false, .bool false]) parts_nil (fun _ => by kernel_rfl) rfl ?_
  have k126 := ((k109.grown0 hN112.grw).gn hS115.grw)
  have k127 := ((hN107.blk.grown0 hN112.grw).gn hS115.grw)
  refine wpo_call (vs := [.agg #[.int .i64 0, .int .i64 0, .bool false, .bool false, .bool false, .int .i64 0, .int .i64 0, .bool false, .bool false, .bool false, .int .i64 0, .int .i64 0, .bool false, .bool false, .bool false, .int .i64 0, .int .i64 0, .bool false, .bool false, .bool false]]) gf_47 (args_cons rfl args_nil) rfl (list4_c _) ?_
  rintro _ w133 ⟨B128, cap129, rfl, hge130, hO131, hg132⟩
  have hb134 := low0 hb116 hg132
  have hlB128 := Nat.le_trans hb116.size hge130
  have lt_B101_B128 := Nat.lt_of_lt_of_le (k126).lt hge130
  have lt_B105_B128 := Nat.lt_of_lt_of_le (k127).lt hge130
  have lt_B110_B128 := Nat.lt_of_lt_of_le (hS115.blk).lt hge130
  refine wpo_fieldAddr (o' := 5) fo_35_4 e124 rfl rfl ?_
  have k135 := (hS115.blk.grown0 hg132)
  refine wpo_store1 (v := .slice (some ⟨B128, 0, none⟩) 4 cap129) (cs' := #[.int .i64 k, .int .i64 l.s, .int .i64 l.v, .int .i64 0, .int .i64 0, .slice (some ⟨B128, 0, none⟩) 4 cap129, .slice none 0 0, .int .i64 to]) ot_32 rfl rfl rfl k135 (Nat.le_of_ble_eq_true rfl) rfl ?_
  intro w136 hS137
  have hb138 := low1 hb134 hS137.grw (by omega)
  refine wpo_nil ?_
  refine thn_n ?_
  refine wpf_seq ?_
  refine wpf_seq_region ?_
  refine wpo_loadn (vs := [.int .i64 k, .int .i64 l.s, .int .i64 l.v, .int .i64 0, .int .i64 0, .slice (some ⟨B128, 0, none⟩) 4 cap129, .slice none 0 0, .int .i64 to]) rt_35 e124 rfl (hS137.blk.rangeL 0 8 rfl) rfl ?_
  have k139 := (hO131.gn hS137.grw)
  refine wpo_call (vs := [.agg #[.int .i64 k, .int .i64 l.s, .int .i64 l.v, .int .i64 0, .int .i64 0, .slice (some ⟨B128, 0, none⟩) 4 cap129, .slice none 0 0, .int .i64 to]]) gf_20 (args_cons rfl args_nil) rfl (ThingOk_c (⟨⟨k, l, 0, 0, zeros4, [], to⟩, some ⟨B128, 0, none⟩, cap129, none, 0⟩ : MTh) _ (Own.sl wide_rt k139) SlAt.nil (by first | omega | exact Nat.le_of_ble_eq_true rfl | (simp only [List.length_nil, List.length_cons, List.length_append, List.length_replicate]; omega)) (by first | omega | exact Nat.le_of_ble_eq_true rfl | (simp only [List.length_nil, List.length_cons, List.length_append, List.length_replicate]; omega))) ?_
  rintro _ w140 ⟨rfl, hg141⟩
  have hb142 := low0 hb138 hg141
  refine wpo_not (b' := !thingOk (⟨k, l, 0, 0, zeros4, [], to⟩ : Th)) rfl rfl rfl ?_
  refine wpo_nil ?_
  refine wpf_condt rfl (not_of_f hlit) ?_
  refine wpf_seq_region ?_
  refine wpo_build (ps := []) (v := .agg #[.int .i64 0, .int .i64 0, .int .i64 0, .int .i64 0, .int .i64 0, .slice none 0 0, .slice none 0 0, .int .i64 0]) parts_nil (fun _ => by kernel_rfl) rfl ?_
  have k143 := (((k127.grown0 hg132).gn hS137.grw).grown0 hg141)
  refine wpo_storen (vs := [.int .i64 0, .int .i64 0, .int .i64 0, .int .i64 0, .int .i64 0, .slice none 0 0, .slice none 0 0, .int .i64 0]) (cs' := #[.int .i64 0, .int .i64 0, .int .i64 0, .int .i64 0, .int .i64 0, .slice none 0 0, .slice none 0 0, .int .i64 0]) rt_35 e122 rfl rfl (by simp [Value.oneCell']) k143 (Nat.le_of_ble_eq_true rfl) rfl ?_
  intro w144 hS145
  have hb146 := low1 hb142 hS145.grw (by omega)
  refine wpo_assign (v := .bool false) rfl rfl ?_
  refine wpo_nil ?_
  refine wpf_ret ?_
  refine thn_r ?_
  refine ⟨.tuple #[.agg #[.int .i64 0, .int .i64 0, .int .i64 0, .int .i64 0, .int .i64 0, .slice none 0 0, .slice none 0 0, .int .i64 0], .bool false], resCT rfl (resCell_mk (vs := [.int .i64 0, .int .i64 0, .int .i64 0, .int .i64 0, .int .i64 0, .slice none 0 0, .slice none 0 0, .int .i64 0]) rt_35 e122 rfl (hS145.blk.rangeL 0 8 rfl)) rfl, rfl, hb146⟩
theorem ThingNew_nt [Comp] (k to : Int) (l : Lab) (hk : ((decide (k = 2)) || (decide (k = 3))) = false) (hok : newOk k l to = true) (w : World) : CallsR Try.prog 17 #[.int .i64 k, .agg #[.int .i64 l.s, .int .i64 l.v], .int .i64 to] w (fun v w' => v = .tuple #[.agg #[.int .i64 k, .int .i64 l.s, .int .i64 l.v, .int .i64 0, .int .i64 0, .slice none 0 0, .slice none 0 0, .int .i64 to], .bool true] ∧ w.grownBy w' none) := by
 refine calls_of_wpf (n := 27) Try.func17 rfl Try.ntmps17 rfl ?_
 have hb0 := World.grownBy.refl w none
 have hlit : thingOk (⟨k, l, 0, 0, [], [], to⟩ : Th) = true := (newOk_n hk).symm.trans hok
 have h101 : decide (k = 2) = false := or_l hk
 have h102 : decide (k = 3) = false := or_r hk
 refine wpf_seq_region ?_
 refine wpo_box (v := .agg #[.int .i64 l.s, .int .i64 l.v]) (cs := #[.int .i64 l.s, .int .i64 l.v]) rfl rfl rfl ?_
 intro B103 w104 hN105
 have hlB103 := hN_ge hN105 hb0
 have hb106 := low0 hb0 hN105.grw
 refine wpo_alloc (cs := #[.int .i64 0, .int .i64 0, .int .i64 0, .int .i64 0, .int .i64 0, .slice none 0 0, .slice none 0 0, .int .i64 0]) zt_35 rfl rfl ?_
 intro B107 w108 hN109
 have hlB107 := hN_ge hN109 hb106
 have lt_B103_B107 := hN_gtl hN109 (hN105.blk).lt
 have hb110 := low0 hb106 hN109.grw
 refine wpo_assign (v := .bool false) rfl rfl ?_
 refine wpo_nil ?_
 refine wpf_seq_region ?_
 refine wpo_move (v := .int .i64 k) rfl rfl ?_
 have k111 := (hN105.blk.grown0 hN109.grw)
 refine wpo_loadn (vs := [.int .i64 l.s, .int .i64 l.v]) rt_25 rfl rfl (k111.rangeL 0 2 rfl) rfl ?_
 refine wpo_move (v := .int .i64 to) rfl rfl ?_
 refine wpo_build (ps := [(0, .int .i64 k), (1, .agg #[.int .i64 l.s, .int .i64 l.v]), (6, .int .i64 to)]) (v := .agg #[.int .i64 k, .int .i64 l.s, .int .i64 l.v, .int .i64 0, .int .i64 0, .slice none 0 0, .slice none 0 0, .int .i64 to]) (parts_cons rfl (parts_cons rfl (parts_cons rfl parts_nil))) (fun _ => by kernel_rfl) rfl ?_
 refine wpo_alloc (cs := #[.int .i64 0, .int .i64 0, .int .i64 0, .int .i64 0, .int .i64 0, .slice none 0 0, .slice none 0 0, .int .i64 0]) zt_35 rfl rfl ?_
 intro B112 w113 hN114
 have hlB112 := hN_ge hN114 hb110
 have lt_B103_B112 := hN_gtl hN114 (k111).lt
 have lt_B107_B112 := hN_gtl hN114 (hN109.blk).lt
 have hb115 := low0 hb110 hN114.grw
 refine wpo_storen (vs := [.int .i64 k, .int .i64 l.s, .int .i64 l.v, .int .i64 0, .int .i64 0, .slice none 0 0, .slice none 0 0, .int .i64 to]) (cs' := #[.int .i64 k, .int .i64 l.s, .int .i64 l.v, .int .i64 0, .int .i64 0, .slice none 0 0, .slice none 0 0, .int .i64 to]) rt_35 rfl rfl rfl (by simp [Value.oneCell']) hN114.blk (Nat.le_of_ble_eq_true rfl) rfl ?_
 intro w116 hS117
 have hb118 := low1 hb115 hS117.grw (by omega)
 refine wpo_nil ?_
 refine wpf_seq ?_
 refine wpf_seq_region ?_
 refine wpo_move (v := .int .i64 k) rfl rfl ?_
 refine wpo_eql (q := decide (k = 2)) rfl rfl rfl rfl ?_
 refine wpo_move (v := .bool (decide (k = 2))) rfl rfl ?_
 refine wpo_run rfl rfl rfl h101 ?_
 refine wpo_move (v := .int .i64 k) rfl rfl ?_
 refine wpo_run rfl rfl rfl h101 ?_
 refine wpo_eql (q := decide (k = 3)) rfl rfl rfl rfl ?_
 refine wpo_pickf (v := .bool (decide (k = 3))) rfl h101 rfl rfl ?_
 refine wpo_nil ?_
 refine wpf_condf rfl h102 ?_
 refine wpf_skip ?_
 refine thn_n ?_
 refine wpf_seq ?_
 refine wpf_seq_region ?_
 refine wpo_loadn (vs := [.int .i64 k, .int .i64 l.s, .int .i64 l.v, .int .i64 0, .int .i64 0, .slice none 0 0, .slice none 0 0, .int .i64 to]) rt_35 rfl rfl (hS117.blk.rangeL 0 8 rfl) rfl ?_
 refine wpo_call (vs := [.agg #[.int .i64 k, .int .i64 l.s, .int .i64 l.v, .int .i64 0, .int .i64 0, .slice none 0 0, .slice none 0 0, .int .i64 to]]) gf_20 (args_cons rfl args_nil) rfl (ThingOk_c (⟨⟨k, l, 0, 0, [], [], to⟩, none, 0, none, 0⟩ : MTh) _ SlAt.nil SlAt.nil (by first | omega | exact Nat.le_of_ble_eq_true rfl | (simp only [List.length_nil, List.length_cons, List.length_append, List.length_replicate]; omega)) (by first | omega | exact Nat.le_of_ble_eq_true rfl | (simp only [List.length_nil, List.length_cons, List.length_append, List.length_replicate]; omega))) ?_
 rintro _ w119 ⟨rfl, hg120⟩
 have hb121 := low0 hb118 hg120
 refine wpo_not (b' := !thingOk (⟨k, l, 0, 0, [], [], to⟩ : Th)) rfl rfl rfl ?_
 refine wpo_nil ?_
 refine wpf_condf rfl (not_of_t hlit) ?_
 refine wpf_skip ?_
 refine thn_n ?_
 refine wpf_seq_region ?_
 have k122 := (hS117.blk.grown0 hg120)
 refine wpo_loadn (vs := [.int .i64 k, .int .i64 l.s, .int .i64 l.v, .int .i64 0, .int .i64 0, .slice none 0 0, .slice none 0 0, .int .i64 to]) rt_35 rfl rfl (k122.rangeL 0 8 rfl) rfl ?_
 have k123 := (((hN109.blk.grown0 hN114.grw).gn hS117.grw).grown0 hg120)
 refine wpo_storen (vs := [.int .i64 k, .int .i64 l.s, .int .i64 l.v, .int .i64 0, .int .i64 0, .slice none 0 0, .slice none 0 0, .int .i64 to]) (cs' := #[.int .i64 k, .int .i64 l.s, .int .i64 l.v, .int .i64 0, .int .i64 0, .slice none 0 0, .slice none 0 0, .int .i64 to]) rt_35 rfl rfl rfl (by simp [Value.oneCell']) k123 (Nat.le_of_ble_eq_true rfl) rfl ?_
 intro w124 hS125
 have hb126 := low1 hb121 hS125.grw (by omega)
 refine wpo_assign (v := .bool true) rfl rfl ?_
 refine wpo_nil ?_
 refine wpf_ret ?_
 refine ⟨.tuple #[.agg #[.int .i64 k, .int .i64 l.s, .int .i64 l.v, .int .i64 0, .int .i64 0, .slice none 0 0, .slice none 0 0, .int .i64 to], .bool true], resCT rfl (resCell_mk (vs := [.int .i64 k, .int .i64 l.s, .int .i64 l.v, .int .i64 0, .int .i64 0, .slice none 0 0, .slice none 0 0, .int .i64 to]) rt_35 rfl rfl (hS125.blk.rangeL 0 8 rfl)) rfl, rfl, hb126⟩
theorem ThingNew_nf [Comp] (k to : Int) (l : Lab) (hk : ((decide (k = 2)) || (decide (k = 3))) = false) (hok : newOk k l to = false) (w : World) : CallsR Try.prog 17 #[.int .i64 k, .agg #[.int .i64 l.s, .int .i64 l.v], .int .i64 to] w (fun v w' => v = .tuple #[.agg #[.int .i64 0, .int .i64 0, .int .i64 0, .int .i64 0, .int .i64 0, .slice none 0 0, .slice none 0 0, .int .i64 0], .bool false] ∧ w.grownBy w' none) := by
 refine calls_of_wpf (n := 27) Try.func17 rfl Try.ntmps17 rfl ?_
 have hb0 := World.grownBy.refl w none
 have hlit : thingOk (⟨k, l, 0, 0, [], [], to⟩ : Th) = false := (newOk_n hk).symm.trans hok
 have h101 : decide (k = 2) = false := or_l hk
 have h102 : decide (k = 3) = false := or_r hk
 refine wpf_seq_region ?_
 refine wpo_box (v := .agg #[.int .i64 l.s, .int .i64 l.v]) (cs := #[.int .i64 l.s, .int .i64 l.v]) rfl rfl rfl ?_
 intro B103 w104 hN105
 have hlB103 := hN_ge hN105 hb0
 have hb106 := low0 hb0 hN105.grw
 refine wpo_alloc (cs := #[.int .i64 0, .int .i64 0, .int .i64 0, .int .i64 0, .int .i64 0, .slice none 0 0, .slice none 0 0, .int .i64 0]) zt_35 rfl rfl ?_
 intro B107 w108 hN109
 have hlB107 := hN_ge hN109 hb106
 have lt_B103_B107 := hN_gtl hN109 (hN105.blk).lt
 have hb110 := low0 hb106 hN109.grw
 refine wpo_assign (v := .bool false) rfl rfl ?_
 refine wpo_nil ?_
 refine wpf_seq_region ?_
 refine wpo_move (v := .int .i64 k) rfl rfl ?_
 have k111 := (hN105.blk.grown0 hN109.grw)
 refine wpo_loadn (vs := [.int .i64 l.s, .int .i64 l.v]) rt_25 rfl rfl (k111.rangeL 0 2 rfl) rfl ?_
 refine wpo_move (v := .int .i64 to) rfl rfl ?_
 refine wpo_build (ps := [(0, .int .i64 k), (1, .agg #[.int .i64 l.s, .int .i64 l.v]), (6, .int .i64 to)]) (v := .agg #[.int .i64 k, .int .i64 l.s, .int .i64 l.v, .int .i64 0, .int .i64 0, .slice none 0 0, .slice none 0 0, .int .i64 to]) (parts_cons rfl (parts_cons rfl (parts_cons rfl parts_nil))) (fun _ => by kernel_rfl) rfl ?_
 refine wpo_alloc (cs := #[.int .i64 0, .int .i64 0, .int .i64 0, .int .i64 0, .int .i64 0, .slice none 0 0, .slice none 0 0, .int .i64 0]) zt_35 rfl rfl ?_
 intro B112 w113 hN114
 have hlB112 := hN_ge hN114 hb110
 have lt_B103_B112 := hN_gtl hN114 (k111).lt
 have lt_B107_B112 := hN_gtl hN114 (hN109.blk).lt
 have hb115 := low0 hb110 hN114.grw
 refine wpo_storen (vs := [.int .i64 k, .int .i64 l.s, .int .i64 l.v, .int .i64 0, .int .i64 0, .slice none 0 0, .slice none 0 0, .int .i64 to]) (cs' := #[.int .i64 k, .int .i64 l.s, .int .i64 l.v, .int .i64 0, .int .i64 0, .slice none 0 0, .slice none 0 0, .int .i64 to]) rt_35 rfl rfl rfl (by simp [Value.oneCell']) hN114.blk (Nat.le_of_ble_eq_true rfl) rfl ?_
 intro w116 hS117
 have hb118 := low1 hb115 hS117.grw (by omega)
 refine wpo_nil ?_
 refine wpf_seq ?_
 refine wpf_seq_region ?_
 refine wpo_move (v := .int .i64 k) rfl rfl ?_
 refine wpo_eql (q := decide (k = 2)) rfl rfl rfl rfl ?_
 refine wpo_move (v := .bool (decide (k = 2))) rfl rfl ?_
 refine wpo_run rfl rfl rfl h101 ?_
 refine wpo_move (v := .int .i64 k) rfl rfl ?_
 refine wpo_run rfl rfl rfl h101 ?_
 refine wpo_eql (q := decide (k = 3)) rfl rfl rfl rfl ?_
 refine wpo_pickf (v := .bool (decide (k = 3))) rfl h101 rfl rfl ?_
 refine wpo_nil ?_
 refine wpf_condf rfl h102 ?_
 refine wpf_skip ?_
 refine thn_n ?_
 refine wpf_seq ?_
 refine wpf_seq_region ?_
 refine wpo_loadn (vs := [.int .i64 k, .int .i64 l.s, .int .i64 l.v, .int .i64 0, .int .i64 0, .slice none 0 0, .slice none 0 0, .int .i64 to]) rt_35 rfl rfl (hS117.blk.rangeL 0 8 rfl) rfl ?_
 refine wpo_call (vs := [.agg #[.int .i64 k, .int .i64 l.s, .int .i64 l.v, .int .i64 0, .int .i64 0, .slice none 0 0, .slice none 0 0, .int .i64 to]]) gf_20 (args_cons rfl args_nil) rfl (ThingOk_c (⟨⟨k, l, 0, 0, [], [], to⟩, none, 0, none, 0⟩ : MTh) _ SlAt.nil SlAt.nil (by first | omega | exact Nat.le_of_ble_eq_true rfl | (simp only [List.length_nil, List.length_cons, List.length_append, List.length_replicate]; omega)) (by first | omega | exact Nat.le_of_ble_eq_true rfl | (simp only [List.length_nil, List.length_cons, List.length_append, List.length_replicate]; omega))) ?_
 rintro _ w119 ⟨rfl, hg120⟩
 have hb121 := low0 hb118 hg120
 refine wpo_not (b' := !thingOk (⟨k, l, 0, 0, [], [], to⟩ : Th)) rfl rfl rfl ?_
 refine wpo_nil ?_
 refine wpf_condt rfl (not_of_f hlit) ?_
 refine wpf_seq_region ?_
 refine wpo_build (ps := []) (v := .agg #[.int .i64 0, .int .i64 0, .int .i64 0, .int .i64 0, .int .i64 0, .slice none 0 0, .slice none 0 0, .int .i64 0]) parts_nil (fun _ => by kernel_rfl) rfl ?_
 have k122 := (((hN109.blk.grown0 hN114.grw).gn hS117.grw).grown0 hg120)
 refine wpo_storen (vs := [.int .i64 0, .int .i64 0, .int .i64 0, .int .i64 0, .int .i64 0, .slice none 0 0, .slice none 0 0, .int .i64 0]) (cs' := #[.int .i64 0, .int .i64 0, .int .i64 0, .int .i64 0, .int .i64 0, .slice none 0 0, .slice none 0 0, .int .i64 0]) rt_35 rfl rfl rfl (by simp [Value.oneCell']) k122 (Nat.le_of_ble_eq_true rfl) rfl ?_
 intro w123 hS124
 have hb125 := low1 hb121 hS124.grw (by omega)
 refine wpo_assign (v := .bool false) rfl rfl ?_
 refine wpo_nil ?_
 refine wpf_ret ?_
 refine thn_r ?_
 refine ⟨.tuple #[.agg #[.int .i64 0, .int .i64 0, .int .i64 0, .int .i64 0, .int .i64 0, .slice none 0 0, .slice none 0 0, .int .i64 0], .bool false], resCT rfl (resCell_mk (vs := [.int .i64 0, .int .i64 0, .int .i64 0, .int .i64 0, .int .i64 0, .slice none 0 0, .slice none 0 0, .int .i64 0]) rt_35 rfl rfl (hS124.blk.rangeL 0 8 rfl)) rfl, rfl, hb125⟩
theorem sThingNew_yt [Comp] (k to : Int) (l : Lab) (hk : ((decide (k = 2)) || (decide (k = 3))) = true) (hok : newOk k l to = true) (w : World) : CallsR Try.prog 93 #[.int .i64 k, .agg #[.int .i64 l.s, .int .i64 l.v], .int .i64 to] w (fun v w' => ∃ (S sc Q qc : Nat), v = .tuple #[.agg #[.int .i64 k, .int .i64 l.s, .int .i64 l.v, .int .i64 0, .int .i64 0, .slice (some ⟨S, 0, none⟩) 4 sc, .slice (some ⟨Q, 0, none⟩) 0 qc, .int .i64 to], .bool true] ∧ w.heap.size ≤ S ∧ Dw.Own w' S 74 5 sc 4 (zeros4.flatMap Rt.cells) ∧ w.heap.size ≤ Q ∧ Dw.Own w' Q 3 1 qc 0 (([] : List Int).flatMap icell) ∧ S ≠ Q ∧ w.grownBy w' none) := by
 refine calls_of_wpf (n := 24) Try.func93 rfl Try.ntmps93 rfl ?_
 have hb0 := World.grownBy.refl w none
 have hlit : thingOk (⟨k, l, 0, 0, zeros4, [], to⟩ : Th) = true := (newOk_y hk).symm.trans hok
 refine wpf_seq_region ?_
 refine wpo_box (v := .agg #[.int .i64 l.s, .int .i64 l.v]) (cs := #[.int .i64 l.s, .int .i64 l.v]) rfl rfl rfl ?_
 intro B101 w102 hN103
 have hlB101 := hN_ge hN103 hb0
 have hb104 := low0 hb0 hN103.grw
 refine wpo_alloc (cs := #[.int .i64 0, .int .i64 0, .int .i64 0, .int .i64 0, .int .i64 0, .slice none 0 0, .slice none 0 0, .int .i64 0]) zt_35 rfl rfl ?_
 intro B105 w106 hN107
 have hlB105 := hN_ge hN107 hb104
 have lt_B101_B105 := hN_gtl hN107 (hN103.blk).lt
 have hb108 := low0 hb104 hN107.grw
 refine wpo_assign (v := .bool false) rfl rfl ?_
 refine wpo_nil ?_
 refine wpf_seq_region ?_
 refine wpo_move (v := .int .i64 k) rfl rfl ?_
 have k109 := (hN103.blk.grown0 hN107.grw)
 refine wpo_loadn (vs := [.int .i64 l.s, .int .i64 l.v]) rt_25 rfl rfl (k109.rangeL 0 2 rfl) rfl ?_
 refine wpo_buildSlice (ps := []) (e := 74) (cs := (([] : List Rt).flatMap Rt.cells).toArray) parts_nil (fun _ => by kernel_rfl) rfl ?_
 intro B110 w111 hN112
 have hlB110 := hN_ge hN112 hb108
 have lt_B101_B110 := hN_gtl hN112 (k109).lt
 have lt_B105_B110 := hN_gtl hN112 (hN107.blk).lt
 have hb113 := low0 hb108 hN112.grw
 refine wpo_buildSlice (ps := []) (e := 3) (cs := (([] : List Int).flatMap icell).toArray) parts_nil (fun _ => by kernel_rfl) rfl ?_
 intro B114 w115 hN116
 have hlB114 := hN_ge hN116 hb113
 have k117 := (k109.grown0 hN112.grw)
 have lt_B101_B114 := hN_gtl hN116 (k117).lt
 have k118 := (hN107.blk.grown0 hN112.grw)
 have lt_B105_B114 := hN_gtl hN116 (k118).lt
 have lt_B110_B114 := hN_gtl hN116 (hN112.blk).lt
 have hb119 := low0 hb113 hN116.grw
 refine wpo_move (v := .int .i64 to) rfl rfl ?_
 refine wpo_build (ps := [(0, .int .i64 k), (1, .agg #[.int .i64 l.s, .int .i64 l.v]), (4, .slice (some ⟨B110, 0, none⟩) 0 0), (5, .slice (some ⟨B114, 0, none⟩) 0 0), (6, .int .i64 to)]) (v := .agg #[.int .i64 k, .int .i64 l.s, .int .i64 l.v, .int .i64 0, .int .i64 0, .slice (some ⟨B110, 0, none⟩) 0 0, .slice (some ⟨B114, 0, none⟩) 0 0, .int .i64 to]) (parts_cons rfl (parts_cons rfl (parts_cons rfl (parts_cons rfl (parts_cons rfl parts_nil))))) (fun _ => by kernel_rfl) rfl ?_
 refine wpo_alloc (cs := #[.int .i64 0, .int .i64 0, .int .i64 0, .int .i64 0, .int .i64 0, .slice none 0 0, .slice none 0 0, .int .i64 0]) zt_35 rfl rfl ?_
 intro B120 w121 hN122
 have hlB120 := hN_ge hN122 hb119
 have k123 := (k117.grown0 hN116.grw)
 have lt_B101_B120 := hN_gtl hN122 (k123).lt
 have k124 := (k118.grown0 hN116.grw)
 have lt_B105_B120 := hN_gtl hN122 (k124).lt
 have k125 := (hN112.blk.grown0 hN116.grw)
 have lt_B110_B120 := hN_gtl hN122 (k125).lt
 have lt_B114_B120 := hN_gtl hN122 (hN116.blk).lt
 have hb126 := low0 hb119 hN122.grw
 refine wpo_storen (vs := [.int .i64 k, .int .i64 l.s, .int .i64 l.v, .int .i64 0, .int .i64 0, .slice (some ⟨B110, 0, none⟩) 0 0, .slice (some ⟨B114, 0, none⟩) 0 0, .int .i64 to]) (cs' := #[.int .i64 k, .int .i64 l.s, .int .i64 l.v, .int .i64 0, .int .i64 0, .slice (some ⟨B110, 0, none⟩) 0 0, .slice (some ⟨B114, 0, none⟩) 0 0, .int .i64 to]) rt_35 rfl rfl rfl (by simp [Value.oneCell']) hN122.blk (Nat.le_of_ble_eq_true rfl) rfl ?_
 intro w127 hS128
 have hb129 := low1 hb126 hS128.grw (by omega)
 refine wpo_nil ?_
 refine wpf_seq ?_
 refine wpf_seq_region ?_
 refine wpo_move (v := .int .i64 k) rfl rfl ?_
 refine wpo_call (vs := [.int .i64 k]) gf_95 (args_cons rfl args_nil) rfl (l3Slots_c k _) ?_
 rintro _ w130 ⟨rfl, hg131⟩
 have hb132 := low0 hb129 hg131
 refine wpo_nil ?_
 refine wpf_condt rfl hk ?_
 refine wpf_region ?_
 refine wpo_make (g := Rt.cells) (z := Rt.zero) (c := 4) mk_32 rfl wide_rt (by omega) rfl rfl (by omega) (by omega) rfl ?_
 intro B133 w134 hN135
 have hlB133 := hN_ge hN135 hb132
 have k136 := (((k123.grown0 hN122.grw).gn hS128.grw).grown0 hg131)
 have lt_B101_B133 := hN_gtl hN135 (k136).lt
 have k137 := (((k124.grown0 hN122.grw).gn hS128.grw).grown0 hg131)
 have lt_B105_B133 := hN_gtl hN135 (k137).lt
 have k138 := (((k125.grown0 hN122.grw).gn hS128.grw).grown0 hg131)
 have lt_B110_B133 := hN_gtl hN135 (k138).lt
 have k139 := (((hN116.blk.grown0 hN122.grw).gn hS128.grw).grown0 hg131)
 have lt_B114_B133 := hN_gtl hN135 (k139).lt
 have k140 := (hS128.blk.grown0 hg131)
 have lt_B120_B133 := hN_gtl hN135 (k140).lt
 have hb141 := low0 hb132 hN135.grw
 refine wpo_fieldAddr (o' := 5) fo_35_4 rfl rfl rfl ?_
 have k142 := (k140.grown0 hN135.grw)
 refine wpo_store1 (v := .slice (some ⟨B133, 0, none⟩) 4 4) (cs' := #[.int .i64 k, .int .i64 l.s, .int .i64 l.v, .int .i64 0, .int .i64 0, .slice (some ⟨B133, 0, none⟩) 4 4, .slice (some ⟨B114, 0, none⟩) 0 0, .int .i64 to]) ot_32 rfl rfl rfl k142 (Nat.le_of_ble_eq_true rfl) rfl ?_
 intro w143 hS144
 have hb145 := low1 hb141 hS144.grw (by omega)
 refine wpo_nil ?_
 refine thn_n ?_
 refine wpf_seq ?_
 refine wpf_seq_region ?_
 refine wpo_loadn (vs := [.int .i64 k, .int .i64 l.s, .int .i64 l.v, .int .i64 0, .int .i64 0, .slice (some ⟨B133, 0, none⟩) 4 4, .slice (some ⟨B114, 0, none⟩) 0 0, .int .i64 to]) rt_35 rfl rfl (hS144.blk.rangeL 0 8 rfl) rfl ?_
 have k146 := (hN135.blk.gn hS144.grw)
 have k147 := ((k139.grown0 hN135.grw).gn hS144.grw)
 refine wpo_call (vs := [.agg #[.int .i64 k, .int .i64 l.s, .int .i64 l.v, .int .i64 0, .int .i64 0, .slice (some ⟨B133, 0, none⟩) 4 4, .slice (some ⟨B114, 0, none⟩) 0 0, .int .i64 to]]) gf_45 (args_cons rfl args_nil) rfl (sThingOk_c (⟨⟨k, l, 0, 0, zeros4, [], to⟩, some ⟨B133, 0, none⟩, 4, some ⟨B114, 0, none⟩, 0⟩ : MTh) _ (rows_sl wide_rt k146) (rows_sl wide_int k147) (by first | omega | exact Nat.le_of_ble_eq_true rfl | (simp only [List.length_nil, List.length_cons, List.length_append, List.length_replicate]; omega)) (by first | omega | exact Nat.le_of_ble_eq_true rfl | (simp only [List.length_nil, List.length_cons, List.length_append, List.length_replicate]; omega))) ?_
 rintro _ w148 ⟨rfl, hg149⟩
 have hb150 := low0 hb145 hg149
 refine wpo_not (b' := !thingOk (⟨k, l, 0, 0, zeros4, [], to⟩ : Th)) rfl rfl rfl ?_
 refine wpo_nil ?_
 refine wpf_condf rfl (not_of_t hlit) ?_
 refine wpf_skip ?_
 refine thn_n ?_
 refine wpf_seq_region ?_
 have k151 := (hS144.blk.grown0 hg149)
 refine wpo_loadn (vs := [.int .i64 k, .int .i64 l.s, .int .i64 l.v, .int .i64 0, .int .i64 0, .slice (some ⟨B133, 0, none⟩) 4 4, .slice (some ⟨B114, 0, none⟩) 0 0, .int .i64 to]) rt_35 rfl rfl (k151.rangeL 0 8 rfl) rfl ?_
 have k152 := (((k137.grown0 hN135.grw).gn hS144.grw).grown0 hg149)
 refine wpo_storen (vs := [.int .i64 k, .int .i64 l.s, .int .i64 l.v, .int .i64 0, .int .i64 0, .slice (some ⟨B133, 0, none⟩) 4 4, .slice (some ⟨B114, 0, none⟩) 0 0, .int .i64 to]) (cs' := #[.int .i64 k, .int .i64 l.s, .int .i64 l.v, .int .i64 0, .int .i64 0, .slice (some ⟨B133, 0, none⟩) 4 4, .slice (some ⟨B114, 0, none⟩) 0 0, .int .i64 to]) rt_35 rfl rfl rfl (by simp [Value.oneCell']) k152 (Nat.le_of_ble_eq_true rfl) rfl ?_
 intro w153 hS154
 have hb155 := low1 hb150 hS154.grw (by omega)
 refine wpo_assign (v := .bool true) rfl rfl ?_
 refine wpo_nil ?_
 refine wpf_ret ?_
 have k156 := ((k146.grown0 hg149).gn hS154.grw)
 have k157 := ((k147.grown0 hg149).gn hS154.grw)
 refine ⟨.tuple #[.agg #[.int .i64 k, .int .i64 l.s, .int .i64 l.v, .int .i64 0, .int .i64 0, .slice (some ⟨B133, 0, none⟩) 4 4, .slice (some ⟨B114, 0, none⟩) 0 0, .int .i64 to], .bool true], resCT rfl (resCell_mk (vs := [.int .i64 k, .int .i64 l.s, .int .i64 l.v, .int .i64 0, .int .i64 0, .slice (some ⟨B133, 0, none⟩) 4 4, .slice (some ⟨B114, 0, none⟩) 0 0, .int .i64 to]) rt_35 rfl rfl (hS154.blk.rangeL 0 8 rfl)) rfl, B133, 4, B114, 0, rfl, hlB133, (Own.rows wide_rt k156 (by decide)), hlB114, (Own.rows wide_int k157 (by decide)), (Nat.ne_of_gt lt_B114_B133), hb155⟩
theorem sThingNew_yf [Comp] (k to : Int) (l : Lab) (hk : ((decide (k = 2)) || (decide (k = 3))) = true) (hok : newOk k l to = false) (w : World) : CallsR Try.prog 93 #[.int .i64 k, .agg #[.int .i64 l.s, .int .i64 l.v], .int .i64 to] w (fun v w' => v = .tuple #[.agg #[.int .i64 0, .int .i64 0, .int .i64 0, .int .i64 0, .int .i64 0, .slice none 0 0, .slice none 0 0, .int .i64 0], .bool false] ∧ w.grownBy w' none) := by
 refine calls_of_wpf (n := 24) Try.func93 rfl Try.ntmps93 rfl ?_
 have hb0 := World.grownBy.refl w none
 have hlit : thingOk (⟨k, l, 0, 0, zeros4, [], to⟩ : Th) = false := (newOk_y hk).symm.trans hok
 refine wpf_seq_region ?_
 refine wpo_box (v := .agg #[.int .i64 l.s, .int .i64 l.v]) (cs := #[.int .i64 l.s, .int .i64 l.v]) rfl rfl rfl ?_
 intro B101 w102 hN103
 have hlB101 := hN_ge hN103 hb0
 have hb104 := low0 hb0 hN103.grw
 refine wpo_alloc (cs := #[.int .i64 0, .int .i64 0, .int .i64 0, .int .i64 0, .int .i64 0, .slice none 0 0, .slice none 0 0, .int .i64 0]) zt_35 rfl rfl ?_
 intro B105 w106 hN107
 have hlB105 := hN_ge hN107 hb104
 have lt_B101_B105 := hN_gtl hN107 (hN103.blk).lt
 have hb108 := low0 hb104 hN107.grw
 refine wpo_assign (v := .bool false) rfl rfl ?_
 refine wpo_nil ?_
 refine wpf_seq_region ?_
 refine wpo_move (v := .int .i64 k) rfl rfl ?_
 have k109 := (hN103.blk.grown0 hN107.grw)
 refine wpo_loadn (vs := [.int .i64 l.s, .int .i64 l.v]) rt_25 rfl rfl (k109.rangeL 0 2 rfl) rfl ?_
 refine wpo_buildSlice (ps := []) (e := 74) (cs := (([] : List Rt).flatMap Rt.cells).toArray) parts_nil (fun _ => by kernel_rfl) rfl ?_
 intro B110 w111 hN112
 have hlB110 := hN_ge hN112 hb108
 have lt_B101_B110 := hN_gtl hN112 (k109).lt
 have lt_B105_B110 := hN_gtl hN112 (hN107.blk).lt
 have hb113 := low0 hb108 hN112.grw
 refine wpo_buildSlice (ps := []) (e := 3) (cs := (([] : List Int).flatMap icell).toArray) parts_nil (fun _ => by kernel_rfl) rfl ?_
 intro B114 w115 hN116
 have hlB114 := hN_ge hN116 hb113
 have k117 := (k109.grown0 hN112.grw)
 have lt_B101_B114 := hN_gtl hN116 (k117).lt
 have k118 := (hN107.blk.grown0 hN112.grw)
 have lt_B105_B114 := hN_gtl hN116 (k118).lt
 have lt_B110_B114 := hN_gtl hN116 (hN112.blk).lt
 have hb119 := low0 hb113 hN116.grw
 refine wpo_move (v := .int .i64 to) rfl rfl ?_
 refine wpo_build (ps := [(0, .int .i64 k), (1, .agg #[.int .i64 l.s, .int .i64 l.v]), (4, .slice (some ⟨B110, 0, none⟩) 0 0), (5, .slice (some ⟨B114, 0, none⟩) 0 0), (6, .int .i64 to)]) (v := .agg #[.int .i64 k, .int .i64 l.s, .int .i64 l.v, .int .i64 0, .int .i64 0, .slice (some ⟨B110, 0, none⟩) 0 0, .slice (some ⟨B114, 0, none⟩) 0 0, .int .i64 to]) (parts_cons rfl (parts_cons rfl (parts_cons rfl (parts_cons rfl (parts_cons rfl parts_nil))))) (fun _ => by kernel_rfl) rfl ?_
 refine wpo_alloc (cs := #[.int .i64 0, .int .i64 0, .int .i64 0, .int .i64 0, .int .i64 0, .slice none 0 0, .slice none 0 0, .int .i64 0]) zt_35 rfl rfl ?_
 intro B120 w121 hN122
 have hlB120 := hN_ge hN122 hb119
 have k123 := (k117.grown0 hN116.grw)
 have lt_B101_B120 := hN_gtl hN122 (k123).lt
 have k124 := (k118.grown0 hN116.grw)
 have lt_B105_B120 := hN_gtl hN122 (k124).lt
 have k125 := (hN112.blk.grown0 hN116.grw)
 have lt_B110_B120 := hN_gtl hN122 (k125).lt
 have lt_B114_B120 := hN_gtl hN122 (hN116.blk).lt
 have hb126 := low0 hb119 hN122.grw
 refine wpo_storen (vs := [.int .i64 k, .int .i64 l.s, .int .i64 l.v, .int .i64 0, .int .i64 0, .slice (some ⟨B110, 0, none⟩) 0 0, .slice (some ⟨B114, 0, none⟩) 0 0, .int .i64 to]) (cs' := #[.int .i64 k, .int .i64 l.s, .int .i64 l.v, .int .i64 0, .int .i64 0, .slice (some ⟨B110, 0, none⟩) 0 0, .slice (some ⟨B114, 0, none⟩) 0 0, .int .i64 to]) rt_35 rfl rfl rfl (by simp [Value.oneCell']) hN122.blk (Nat.le_of_ble_eq_true rfl) rfl ?_
 intro w127 hS128
 have hb129 := low1 hb126 hS128.grw (by omega)
 refine wpo_nil ?_
 refine wpf_seq ?_
 refine wpf_seq_region ?_
 refine wpo_move (v := .int .i64 k) rfl rfl ?_
 refine wpo_call (vs := [.int .i64 k]) gf_95 (args_cons rfl args_nil) rfl (l3Slots_c k _) ?_
 rintro _ w130 ⟨rfl, hg131⟩
 have hb132 := low0 hb129 hg131
 refine wpo_nil ?_
 refine wpf_condt rfl hk ?_
 refine wpf_region ?_
 refine wpo_make (g := Rt.cells) (z := Rt.zero) (c := 4) mk_32 rfl wide_rt (by omega) rfl rfl (by omega) (by omega) rfl ?_
 intro B133 w134 hN135
 have hlB133 := hN_ge hN135 hb132
 have k136 := (((k123.grown0 hN122.grw).gn hS128.grw).grown0 hg131)
 have lt_B101_B133 := hN_gtl hN135 (k136).lt
 have k137 := (((k124.grown0 hN122.grw).gn hS128.grw).grown0 hg131)
 have lt_B105_B133 := hN_gtl hN135 (k137).lt
 have k138 := (((k125.grown0 hN122.grw).gn hS128.grw).grown0 hg131)
 have lt_B110_B133 := hN_gtl hN135 (k138).lt
 have k139 := (((hN116.blk.grown0 hN122.grw).gn hS128.grw).grown0 hg131)
 have lt_B114_B133 := hN_gtl hN135 (k139).lt
 have k140 := (hS128.blk.grown0 hg131)
 have lt_B120_B133 := hN_gtl hN135 (k140).lt
 have hb141 := low0 hb132 hN135.grw
 refine wpo_fieldAddr (o' := 5) fo_35_4 rfl rfl rfl ?_
 have k142 := (k140.grown0 hN135.grw)
 refine wpo_store1 (v := .slice (some ⟨B133, 0, none⟩) 4 4) (cs' := #[.int .i64 k, .int .i64 l.s, .int .i64 l.v, .int .i64 0, .int .i64 0, .slice (some ⟨B133, 0, none⟩) 4 4, .slice (some ⟨B114, 0, none⟩) 0 0, .int .i64 to]) ot_32 rfl rfl rfl k142 (Nat.le_of_ble_eq_true rfl) rfl ?_
 intro w143 hS144
 have hb145 := low1 hb141 hS144.grw (by omega)
 refine wpo_nil ?_
 refine thn_n ?_
 refine wpf_seq ?_
 refine wpf_seq_region ?_
 refine wpo_loadn (vs := [.int .i64 k, .int .i64 l.s, .int .i64 l.v, .int .i64 0, .int .i64 0, .slice (some ⟨B133, 0, none⟩) 4 4, .slice (some ⟨B114, 0, none⟩) 0 0, .int .i64 to]) rt_35 rfl rfl (hS144.blk.rangeL 0 8 rfl) rfl ?_
 have k146 := (hN135.blk.gn hS144.grw)
 have k147 := ((k139.grown0 hN135.grw).gn hS144.grw)
 refine wpo_call (vs := [.agg #[.int .i64 k, .int .i64 l.s, .int .i64 l.v, .int .i64 0, .int .i64 0, .slice (some ⟨B133, 0, none⟩) 4 4, .slice (some ⟨B114, 0, none⟩) 0 0, .int .i64 to]]) gf_45 (args_cons rfl args_nil) rfl (sThingOk_c (⟨⟨k, l, 0, 0, zeros4, [], to⟩, some ⟨B133, 0, none⟩, 4, some ⟨B114, 0, none⟩, 0⟩ : MTh) _ (rows_sl wide_rt k146) (rows_sl wide_int k147) (by first | omega | exact Nat.le_of_ble_eq_true rfl | (simp only [List.length_nil, List.length_cons, List.length_append, List.length_replicate]; omega)) (by first | omega | exact Nat.le_of_ble_eq_true rfl | (simp only [List.length_nil, List.length_cons, List.length_append, List.length_replicate]; omega))) ?_
 rintro _ w148 ⟨rfl, hg149⟩
 have hb150 := low0 hb145 hg149
 refine wpo_not (b' := !thingOk (⟨k, l, 0, 0, zeros4, [], to⟩ : Th)) rfl rfl rfl ?_
 refine wpo_nil ?_
 refine wpf_condt rfl (not_of_f hlit) ?_
 refine wpf_seq_region ?_
 refine wpo_build (ps := []) (v := .agg #[.int .i64 0, .int .i64 0, .int .i64 0, .int .i64 0, .int .i64 0, .slice none 0 0, .slice none 0 0, .int .i64 0]) parts_nil (fun _ => by kernel_rfl) rfl ?_
 have k151 := (((k137.grown0 hN135.grw).gn hS144.grw).grown0 hg149)
 refine wpo_storen (vs := [.int .i64 0, .int .i64 0, .int .i64 0, .int .i64 0, .int .i64 0, .slice none 0 0, .slice none 0 0, .int .i64 0]) (cs' := #[.int .i64 0, .int .i64 0, .int .i64 0, .int .i64 0, .int .i64 0, .slice none 0 0, .slice none 0 0, .int .i64 0]) rt_35 rfl rfl rfl (by simp [Value.oneCell']) k151 (Nat.le_of_ble_eq_true rfl) rfl ?_
 intro w152 hS153
 have hb154 := low1 hb150 hS153.grw (by omega)
 refine wpo_assign (v := .bool false) rfl rfl ?_
 refine wpo_nil ?_
 refine wpf_ret ?_
 refine thn_r ?_
 refine ⟨.tuple #[.agg #[.int .i64 0, .int .i64 0, .int .i64 0, .int .i64 0, .int .i64 0, .slice none 0 0, .slice none 0 0, .int .i64 0], .bool false], resCT rfl (resCell_mk (vs := [.int .i64 0, .int .i64 0, .int .i64 0, .int .i64 0, .int .i64 0, .slice none 0 0, .slice none 0 0, .int .i64 0]) rt_35 rfl rfl (hS153.blk.rangeL 0 8 rfl)) rfl, rfl, hb154⟩
theorem sThingNew_nt [Comp] (k to : Int) (l : Lab) (hk : ((decide (k = 2)) || (decide (k = 3))) = false) (hok : newOk k l to = true) (w : World) : CallsR Try.prog 93 #[.int .i64 k, .agg #[.int .i64 l.s, .int .i64 l.v], .int .i64 to] w (fun v w' => ∃ (S sc Q qc : Nat), v = .tuple #[.agg #[.int .i64 k, .int .i64 l.s, .int .i64 l.v, .int .i64 0, .int .i64 0, .slice (some ⟨S, 0, none⟩) 0 sc, .slice (some ⟨Q, 0, none⟩) 0 qc, .int .i64 to], .bool true] ∧ w.heap.size ≤ S ∧ Dw.Own w' S 74 5 sc 0 (([] : List Rt).flatMap Rt.cells) ∧ w.heap.size ≤ Q ∧ Dw.Own w' Q 3 1 qc 0 (([] : List Int).flatMap icell) ∧ S ≠ Q ∧ w.grownBy w' none) := by
 refine calls_of_wpf (n := 24) Try.func93 rfl Try.ntmps93 rfl ?_
 have hb0 := World.grownBy.refl w none
 have hlit : thingOk (⟨k, l, 0, 0, [], [], to⟩ : Th) = true := (newOk_n hk).symm.trans hok
 have h101 : decide (k = 2) = false := or_l hk
 have h102 : decide (k = 3) = false := or_r hk
 refine wpf_seq_region ?_
 refine wpo_box (v := .agg #[.int .i64 l.s, .int .i64 l.v]) (cs := #[.int .i64 l.s, .int .i64 l.v]) rfl rfl rfl ?_
 intro B103 w104 hN105
 have hlB103 := hN_ge hN105 hb0
 have hb106 := low0 hb0 hN105.grw
 refine wpo_alloc (cs := #[.int .i64 0, .int .i64 0, .int .i64 0, .int .i64 0, .int .i64 0, .slice none 0 0, .slice none 0 0, .int .i64 0]) zt_35 rfl rfl ?_
 intro B107 w108 hN109
 have hlB107 := hN_ge hN109 hb106
 have lt_B103_B107 := hN_gtl hN109 (hN105.blk).lt
 have hb110 := low0 hb106 hN109.grw
 refine wpo_assign (v := .bool false) rfl rfl ?_
 refine wpo_nil ?_
 refine wpf_seq_region ?_
 refine wpo_move (v := .int .i64 k) rfl rfl ?_
 have k111 := (hN105.blk.grown0 hN109.grw)
 refine wpo_loadn (vs := [.int .i64 l.s, .int .i64 l.v]) rt_25 rfl rfl (k111.rangeL 0 2 rfl) rfl ?_
 refine wpo_buildSlice (ps := []) (e := 74) (cs := (([] : List Rt).flatMap Rt.cells).toArray) parts_nil (fun _ => by kernel_rfl) rfl ?_
 intro B112 w113 hN114
 have hlB112 := hN_ge hN114 hb110
 have lt_B103_B112 := hN_gtl hN114 (k111).lt
 have lt_B107_B112 := hN_gtl hN114 (hN109.blk).lt
 have hb115 := low0 hb110 hN114.grw
 refine wpo_buildSlice (ps := []) (e := 3) (cs := (([] : List Int).flatMap icell).toArray) parts_nil (fun _ => by kernel_rfl) rfl ?_
 intro B116 w117 hN118
 have hlB116 := hN_ge hN118 hb115
 have k119 := (k111.grown0 hN114.grw)
 have lt_B103_B116 := hN_gtl hN118 (k119).lt
 have k120 := (hN109.blk.grown0 hN114.grw)
 have lt_B107_B116 := hN_gtl hN118 (k120).lt
 have lt_B112_B116 := hN_gtl hN118 (hN114.blk).lt
 have hb121 := low0 hb115 hN118.grw
 refine wpo_move (v := .int .i64 to) rfl rfl ?_
 refine wpo_build (ps := [(0, .int .i64 k), (1, .agg #[.int .i64 l.s, .int .i64 l.v]), (4, .slice (some ⟨B112, 0, none⟩) 0 0), (5, .slice (some ⟨B116, 0, none⟩) 0 0), (6, .int .i64 to)]) (v := .agg #[.int .i64 k, .int .i64 l.s, .int .i64 l.v, .int .i64 0, .int .i64 0, .slice (some ⟨B112, 0, none⟩) 0 0, .slice (some ⟨B116, 0, none⟩) 0 0, .int .i64 to]) (parts_cons rfl (parts_cons rfl (parts_cons rfl (parts_cons rfl (parts_cons rfl parts_nil))))) (fun _ => by kernel_rfl) rfl ?_
 refine wpo_alloc (cs := #[.int .i64 0, .int .i64 0, .int .i64 0, .int .i64 0, .int .i64 0, .slice none 0 0, .slice none 0 0, .int .i64 0]) zt_35 rfl rfl ?_
 intro B122 w123 hN124
 have hlB122 := hN_ge hN124 hb121
 have k125 := (k119.grown0 hN118.grw)
 have lt_B103_B122 := hN_gtl hN124 (k125).lt
 have k126 := (k120.grown0 hN118.grw)
 have lt_B107_B122 := hN_gtl hN124 (k126).lt
 have k127 := (hN114.blk.grown0 hN118.grw)
 have lt_B112_B122 := hN_gtl hN124 (k127).lt
 have lt_B116_B122 := hN_gtl hN124 (hN118.blk).lt
 have hb128 := low0 hb121 hN124.grw
 refine wpo_storen (vs := [.int .i64 k, .int .i64 l.s, .int .i64 l.v, .int .i64 0, .int .i64 0, .slice (some ⟨B112, 0, none⟩) 0 0, .slice (some ⟨B116, 0, none⟩) 0 0, .int .i64 to]) (cs' := #[.int .i64 k, .int .i64 l.s, .int .i64 l.v, .int .i64 0, .int .i64 0, .slice (some ⟨B112, 0, none⟩) 0 0, .slice (some ⟨B116, 0, none⟩) 0 0, .int .i64 to]) rt_35 rfl rfl rfl (by simp [Value.oneCell']) hN124.blk (Nat.le_of_ble_eq_true rfl) rfl ?_
 intro w129 hS130
 have hb131 := low1 hb128 hS130.grw (by omega)
 refine wpo_nil ?_
 refine wpf_seq ?_
 refine wpf_seq_region ?_
 refine wpo_move (v := .int .i64 k) rfl rfl ?_
 refine wpo_call (vs := [.int .i64 k]) gf_95 (args_cons rfl args_nil) rfl (l3Slots_c k _) ?_
 rintro _ w132 ⟨rfl, hg133⟩
 have hb134 := low0 hb131 hg133
 refine wpo_nil ?_
 refine wpf_condf rfl hk ?_
 refine wpf_skip ?_
 refine thn_n ?_
 refine wpf_seq ?_
 refine wpf_seq_region ?_
 have k135 := (hS130.blk.grown0 hg133)
 refine wpo_loadn (vs := [.int .i64 k, .int .i64 l.s, .int .i64 l.v, .int .i64 0, .int .i64 0, .slice (some ⟨B112, 0, none⟩) 0 0, .slice (some ⟨B116, 0, none⟩) 0 0, .int .i64 to]) rt_35 rfl rfl (k135.rangeL 0 8 rfl) rfl ?_
 have k136 := (((k127.grown0 hN124.grw).gn hS130.grw).grown0 hg133)
 have k137 := (((hN118.blk.grown0 hN124.grw).gn hS130.grw).grown0 hg133)
 refine wpo_call (vs := [.agg #[.int .i64 k, .int .i64 l.s, .int .i64 l.v, .int .i64 0, .int .i64 0, .slice (some ⟨B112, 0, none⟩) 0 0, .slice (some ⟨B116, 0, none⟩) 0 0, .int .i64 to]]) gf_45 (args_cons rfl args_nil) rfl (sThingOk_c (⟨⟨k, l, 0, 0, [], [], to⟩, some ⟨B112, 0, none⟩, 0, some ⟨B116, 0, none⟩, 0⟩ : MTh) _ (rows_sl wide_rt k136) (rows_sl wide_int k137) (by first | omega | exact Nat.le_of_ble_eq_true rfl | (simp only [List.length_nil, List.length_cons, List.length_append, List.length_replicate]; omega)) (by first | omega | exact Nat.le_of_ble_eq_true rfl | (simp only [List.length_nil, List.length_cons, List.length_append, List.length_replicate]; omega))) ?_
 rintro _ w138 ⟨rfl, hg139⟩
 have hb140 := low0 hb134 hg139
 refine wpo_not (b' := !thingOk (⟨k, l, 0, 0, [], [], to⟩ : Th)) rfl rfl rfl ?_
 refine wpo_nil ?_
 refine wpf_condf rfl (not_of_t hlit) ?_
 refine wpf_skip ?_
 refine thn_n ?_
 refine wpf_seq_region ?_
 have k141 := (k135.grown0 hg139)
 refine wpo_loadn (vs := [.int .i64 k, .int .i64 l.s, .int .i64 l.v, .int .i64 0, .int .i64 0, .slice (some ⟨B112, 0, none⟩) 0 0, .slice (some ⟨B116, 0, none⟩) 0 0, .int .i64 to]) rt_35 rfl rfl (k141.rangeL 0 8 rfl) rfl ?_
 have k142 := ((((k126.grown0 hN124.grw).gn hS130.grw).grown0 hg133).grown0 hg139)
 refine wpo_storen (vs := [.int .i64 k, .int .i64 l.s, .int .i64 l.v, .int .i64 0, .int .i64 0, .slice (some ⟨B112, 0, none⟩) 0 0, .slice (some ⟨B116, 0, none⟩) 0 0, .int .i64 to]) (cs' := #[.int .i64 k, .int .i64 l.s, .int .i64 l.v, .int .i64 0, .int .i64 0, .slice (some ⟨B112, 0, none⟩) 0 0, .slice (some ⟨B116, 0, none⟩) 0 0, .int .i64 to]) rt_35 rfl rfl rfl (by simp [Value.oneCell']) k142 (Nat.le_of_ble_eq_true rfl) rfl ?_
 intro w143 hS144
 have hb145 := low1 hb140 hS144.grw (by omega)
 refine wpo_assign (v := .bool true) rfl rfl ?_
 refine wpo_nil ?_
 refine wpf_ret ?_
 have k146 := ((k136.grown0 hg139).gn hS144.grw)
 have k147 := ((k137.grown0 hg139).gn hS144.grw)
 refine ⟨.tuple #[.agg #[.int .i64 k, .int .i64 l.s, .int .i64 l.v, .int .i64 0, .int .i64 0, .slice (some ⟨B112, 0, none⟩) 0 0, .slice (some ⟨B116, 0, none⟩) 0 0, .int .i64 to], .bool true], resCT rfl (resCell_mk (vs := [.int .i64 k, .int .i64 l.s, .int .i64 l.v, .int .i64 0, .int .i64 0, .slice (some ⟨B112, 0, none⟩) 0 0, .slice (some ⟨B116, 0, none⟩) 0 0, .int .i64 to]) rt_35 rfl rfl (hS144.blk.rangeL 0 8 rfl)) rfl, B112, 0, B116, 0, rfl, hlB112, (Own.rows wide_rt k146 (by decide)), hlB116, (Own.rows wide_int k147 (by decide)), (Nat.ne_of_lt lt_B112_B116), hb145⟩
theorem sThingNew_nf [Comp] (k to : Int) (l : Lab) (hk : ((decide (k = 2)) || (decide (k = 3))) = false) (hok : newOk k l to = false) (w : World) : CallsR Try.prog 93 #[.int .i64 k, .agg #[.int .i64 l.s, .int .i64 l.v], .int .i64 to] w (fun v w' => v = .tuple #[.agg #[.int .i64 0, .int .i64 0, .int .i64 0, .int .i64 0, .int .i64 0, .slice none 0 0, .slice none 0 0, .int .i64 0], .bool false] ∧ w.grownBy w' none) := by
 refine calls_of_wpf (n := 24) Try.func93 rfl Try.ntmps93 rfl ?_
 have hb0 := World.grownBy.refl w none
 have hlit : thingOk (⟨k, l, 0, 0, [], [], to⟩ : Th) = false := (newOk_n hk).symm.trans hok
 have h101 : decide (k = 2) = false := or_l hk
 have h102 : decide (k = 3) = false := or_r hk
 refine wpf_seq_region ?_
 refine wpo_box (v := .agg #[.int .i64 l.s, .int .i64 l.v]) (cs := #[.int .i64 l.s, .int .i64 l.v]) rfl rfl rfl ?_
 intro B103 w104 hN105
 have hlB103 := hN_ge hN105 hb0
 have hb106 := low0 hb0 hN105.grw
 refine wpo_alloc (cs := #[.int .i64 0, .int .i64 0, .int .i64 0, .int .i64 0, .int .i64 0, .slice none 0 0, .slice none 0 0, .int .i64 0]) zt_35 rfl rfl ?_
 intro B107 w108 hN109
 have hlB107 := hN_ge hN109 hb106
 have lt_B103_B107 := hN_gtl hN109 (hN105.blk).lt
 have hb110 := low0 hb106 hN109.grw
 refine wpo_assign (v := .bool false) rfl rfl ?_
 refine wpo_nil ?_
 refine wpf_seq_region ?_
 refine wpo_move (v := .int .i64 k) rfl rfl ?_
 have k111 := (hN105.blk.grown0 hN109.grw)
 refine wpo_loadn (vs := [.int .i64 l.s, .int .i64 l.v]) rt_25 rfl rfl (k111.rangeL 0 2 rfl) rfl ?_
 refine wpo_buildSlice (ps := []) (e := 74) (cs := (([] : List Rt).flatMap Rt.cells).toArray) parts_nil (fun _ => by kernel_rfl) rfl ?_
 intro B112 w113 hN114
 have hlB112 := hN_ge hN114 hb110
 have lt_B103_B112 := hN_gtl hN114 (k111).lt
 have lt_B107_B112 := hN_gtl hN114 (hN109.blk).lt
 have hb115 := low0 hb110 hN114.grw
 refine wpo_buildSlice (ps := []) (e := 3) (cs := (([] : List Int).flatMap icell).toArray) parts_nil (fun _ => by kernel_rfl) rfl ?_
 intro B116 w117 hN118
 have hlB116 := hN_ge hN118 hb115
 have k119 := (k111.grown0 hN114.grw)
 have lt_B103_B116 := hN_gtl hN118 (k119).lt
 have k120 := (hN109.blk.grown0 hN114.grw)
 have lt_B107_B116 := hN_gtl hN118 (k120).lt
 have lt_B112_B116 := hN_gtl hN118 (hN114.blk).lt
 have hb121 := low0 hb115 hN118.grw
 refine wpo_move (v := .int .i64 to) rfl rfl ?_
 refine wpo_build (ps := [(0, .int .i64 k), (1, .agg #[.int .i64 l.s, .int .i64 l.v]), (4, .slice (some ⟨B112, 0, none⟩) 0 0), (5, .slice (some ⟨B116, 0, none⟩) 0 0), (6, .int .i64 to)]) (v := .agg #[.int .i64 k, .int .i64 l.s, .int .i64 l.v, .int .i64 0, .int .i64 0, .slice (some ⟨B112, 0, none⟩) 0 0, .slice (some ⟨B116, 0, none⟩) 0 0, .int .i64 to]) (parts_cons rfl (parts_cons rfl (parts_cons rfl (parts_cons rfl (parts_cons rfl parts_nil))))) (fun _ => by kernel_rfl) rfl ?_
 refine wpo_alloc (cs := #[.int .i64 0, .int .i64 0, .int .i64 0, .int .i64 0, .int .i64 0, .slice none 0 0, .slice none 0 0, .int .i64 0]) zt_35 rfl rfl ?_
 intro B122 w123 hN124
 have hlB122 := hN_ge hN124 hb121
 have k125 := (k119.grown0 hN118.grw)
 have lt_B103_B122 := hN_gtl hN124 (k125).lt
 have k126 := (k120.grown0 hN118.grw)
 have lt_B107_B122 := hN_gtl hN124 (k126).lt
 have k127 := (hN114.blk.grown0 hN118.grw)
 have lt_B112_B122 := hN_gtl hN124 (k127).lt
 have lt_B116_B122 := hN_gtl hN124 (hN118.blk).lt
 have hb128 := low0 hb121 hN124.grw
 refine wpo_storen (vs := [.int .i64 k, .int .i64 l.s, .int .i64 l.v, .int .i64 0, .int .i64 0, .slice (some ⟨B112, 0, none⟩) 0 0, .slice (some ⟨B116, 0, none⟩) 0 0, .int .i64 to]) (cs' := #[.int .i64 k, .int .i64 l.s, .int .i64 l.v, .int .i64 0, .int .i64 0, .slice (some ⟨B112, 0, none⟩) 0 0, .slice (some ⟨B116, 0, none⟩) 0 0, .int .i64 to]) rt_35 rfl rfl rfl (by simp [Value.oneCell']) hN124.blk (Nat.le_of_ble_eq_true rfl) rfl ?_
 intro w129 hS130
 have hb131 := low1 hb128 hS130.grw (by omega)
 refine wpo_nil ?_
 refine wpf_seq ?_
 refine wpf_seq_region ?_
 refine wpo_move (v := .int .i64 k) rfl rfl ?_
 refine wpo_call (vs := [.int .i64 k]) gf_95 (args_cons rfl args_nil) rfl (l3Slots_c k _) ?_
 rintro _ w132 ⟨rfl, hg133⟩
 have hb134 := low0 hb131 hg133
 refine wpo_nil ?_
 refine wpf_condf rfl hk ?_
 refine wpf_skip ?_
 refine thn_n ?_
 refine wpf_seq ?_
 refine wpf_seq_region ?_
 have k135 := (hS130.blk.grown0 hg133)
 refine wpo_loadn (vs := [.int .i64 k, .int .i64 l.s, .int .i64 l.v, .int .i64 0, .int .i64 0, .slice (some ⟨B112, 0, none⟩) 0 0, .slice (some ⟨B116, 0, none⟩) 0 0, .int .i64 to]) rt_35 rfl rfl (k135.rangeL 0 8 rfl) rfl ?_
 have k136 := (((k127.grown0 hN124.grw).gn hS130.grw).grown0 hg133)
 have k137 := (((hN118.blk.grown0 hN124.grw).gn hS130.grw).grown0 hg133)
 refine wpo_call (vs := [.agg #[.int .i64 k, .int .i64 l.s, .int .i64 l.v, .int .i64 0, .int .i64 0, .slice (some ⟨B112, 0, none⟩) 0 0, .slice (some ⟨B116, 0, none⟩) 0 0, .int .i64 to]]) gf_45 (args_cons rfl args_nil) rfl (sThingOk_c (⟨⟨k, l, 0, 0, [], [], to⟩, some ⟨B112, 0, none⟩, 0, some ⟨B116, 0, none⟩, 0⟩ : MTh) _ (rows_sl wide_rt k136) (rows_sl wide_int k137) (by first | omega | exact Nat.le_of_ble_eq_true rfl | (simp only [List.length_nil, List.length_cons, List.length_append, List.length_replicate]; omega)) (by first | omega | exact Nat.le_of_ble_eq_true rfl | (simp only [List.length_nil, List.length_cons, List.length_append, List.length_replicate]; omega))) ?_
 rintro _ w138 ⟨rfl, hg139⟩
 have hb140 := low0 hb134 hg139
 refine wpo_not (b' := !thingOk (⟨k, l, 0, 0, [], [], to⟩ : Th)) rfl rfl rfl ?_
 refine wpo_nil ?_
 refine wpf_condt rfl (not_of_f hlit) ?_
 refine wpf_seq_region ?_
 refine wpo_build (ps := []) (v := .agg #[.int .i64 0, .int .i64 0, .int .i64 0, .int .i64 0, .int .i64 0, .slice none 0 0, .slice none 0 0, .int .i64 0]) parts_nil (fun _ => by kernel_rfl) rfl ?_
 have k141 := ((((k126.grown0 hN124.grw).gn hS130.grw).grown0 hg133).grown0 hg139)
 refine wpo_storen (vs := [.int .i64 0, .int .i64 0, .int .i64 0, .int .i64 0, .int .i64 0, .slice none 0 0, .slice none 0 0, .int .i64 0]) (cs' := #[.int .i64 0, .int .i64 0, .int .i64 0, .int .i64 0, .int .i64 0, .slice none 0 0, .slice none 0 0, .int .i64 0]) rt_35 rfl rfl rfl (by simp [Value.oneCell']) k141 (Nat.le_of_ble_eq_true rfl) rfl ?_
 intro w142 hS143
 have hb144 := low1 hb140 hS143.grw (by omega)
 refine wpo_assign (v := .bool false) rfl rfl ?_
 refine wpo_nil ?_
 refine wpf_ret ?_
 refine thn_r ?_
 refine ⟨.tuple #[.agg #[.int .i64 0, .int .i64 0, .int .i64 0, .int .i64 0, .int .i64 0, .slice none 0 0, .slice none 0 0, .int .i64 0], .bool false], resCT rfl (resCell_mk (vs := [.int .i64 0, .int .i64 0, .int .i64 0, .int .i64 0, .int .i64 0, .slice none 0 0, .slice none 0 0, .int .i64 0]) rt_35 rfl rfl (hS143.blk.rangeL 0 8 rfl)) rfl, rfl, hb144⟩
theorem eqLabel_c [Comp] (a b : Lab) (w : World) : CallsR Try.prog 106 #[.agg #[.int .i64 a.s, .int .i64 a.v], .agg #[.int .i64 b.s, .int .i64 b.v]] w (fun v w' => v = .bool (decide (a = b)) ∧ w.grownBy w' none) := by
 refine calls_of_wpf (n := 15) Try.func106 rfl Try.ntmps106 rfl ?_
 have hb0 := World.grownBy.refl w none
 refine wpf_seq_region ?_
 refine wpo_box (v := .agg #[.int .i64 a.s, .int .i64 a.v]) (cs := #[.int .i64 a.s, .int .i64 a.v]) rfl rfl rfl ?_
 intro B101 w102 hN103
 have hlB101 := hN_ge hN103 hb0
 have hb104 := low0 hb0 hN103.grw
 refine wpo_box (v := .agg #[.int .i64 b.s, .int .i64 b.v]) (cs := #[.int .i64 b.s, .int .i64 b.v]) rfl rfl rfl ?_
 intro B105 w106 hN107
 have hlB105 := hN_ge hN107 hb104
 have lt_B101_B105 := hN_gtl hN107 (hN103.blk).lt
 have hb108 := low0 hb104 hN107.grw
 refine wpo_assign (v := .bool false) rfl rfl ?_
 refine wpo_nil ?_
 refine wpf_seq ?_
 refine wpf_seq_region ?_
 refine wpo_fieldAddr (o' := 0) fo_25_0 rfl rfl rfl ?_
 have k109 := (hN103.blk.grown0 hN107.grw)
 refine wpo_load1 (v := .int .i64 a.s) ot_3 rfl (k109.cell rfl) rfl ?_
 refine wpo_fieldAddr (o' := 0) fo_25_0 rfl rfl rfl ?_
 refine wpo_load1 (v := .int .i64 b.s) ot_3 rfl (hN107.blk.cell rfl) rfl ?_
 refine wpo_neq (q := !(decide (a.s = b.s))) rfl rfl rfl rfl ?_
 refine wpo_nil ?_
 refine wpf_cond rfl (fun h110 => ?_) (fun h110 => ?_)
 ·
  have h111 := nt_t h110
  have h112 := of_decide_eq_false h111
  refine wpf_seq_region ?_
  refine wpo_assign (v := .bool false) rfl rfl ?_
  refine wpo_nil ?_
  refine wpf_ret ?_
  refine thn_r ?_
  refine ⟨.bool false, res1 rfl rfl, ?_, hb108⟩
  obtain ⟨a1, a2⟩ := a
  obtain ⟨b1, b2⟩ := b
  simp_all
 ·
  have h113 := nt_f h110
  have h114 := of_decide_eq_true h113
  refine wpf_skip ?_
  refine thn_n ?_
  refine wpf_seq ?_
  refine wpf_seq_region ?_
  refine wpo_fieldAddr (o' := 1) fo_25_1 rfl rfl rfl ?_
  refine wpo_load1 (v := .int .i64 a.v) ot_3 rfl (k109.cell rfl) rfl ?_
  refine wpo_fieldAddr (o' := 1) fo_25_1 rfl rfl rfl ?_
  refine wpo_load1 (v := .int .i64 b.v) ot_3 rfl (hN107.blk.cell rfl) rfl ?_
  refine wpo_neq (q := !(decide (a.v = b.v))) rfl rfl rfl rfl ?_
  refine wpo_nil ?_
  refine wpf_cond rfl (fun h115 => ?_) (fun h115 => ?_)
  ·
   have h116 := nt_t h115
   have h117 := of_decide_eq_false h116
   refine wpf_seq_region ?_
   refine wpo_assign (v := .bool false) rfl rfl ?_
   refine wpo_nil ?_
   refine wpf_ret ?_
   refine thn_r ?_
   refine ⟨.bool false, res1 rfl rfl, ?_, hb108⟩
   obtain ⟨a1, a2⟩ := a
   obtain ⟨b1, b2⟩ := b
   simp_all
  ·
   have h118 := nt_f h115
   have h119 := of_decide_eq_true h118
   refine wpf_skip ?_
   refine thn_n ?_
   refine wpf_seq_region ?_
   refine wpo_assign (v := .bool true) rfl rfl ?_
   refine wpo_nil ?_
   refine wpf_ret ?_
   refine ⟨.bool true, res1 rfl rfl, ?_, hb108⟩
   obtain ⟨a1, a2⟩ := a
   obtain ⟨b1, b2⟩ := b
   simp_all
theorem eqIntS_c [Comp] (w : World) (xs ys : List Int) (a b : Option Addr) (c e : Nat) (hs : SlAt w a 1 (xs.map icell)) (ht : SlAt w b 1 (ys.map icell)) (hn : xs.length ≤ 1048576) (hm : ys.length ≤ 1048576) : CallsR Try.prog 108 #[.slice a xs.length c, .slice b ys.length e] w (fun v w' => v = .bool (decide (xs = ys)) ∧ w.grownBy w' none) := by
 refine calls_of_wpf (n := 26) Try.func108 rfl Try.ntmps108 rfl ?_
 have hb0 := World.grownBy.refl w none
 refine wpf_seq_region ?_
 refine wpo_assign (v := .bool false) rfl rfl ?_
 refine wpo_nil ?_
 refine wpf_seq ?_
 refine wpf_seq_region ?_
 refine wpo_move (v := .slice a xs.length c) rfl rfl ?_
 refine wpo_len (by kernel_rfl) rfl rfl ?_
 refine wpo_move (v := .slice b ys.length e) rfl rfl ?_
 refine wpo_len (by kernel_rfl) rfl rfl ?_
 refine wpo_neq (q := !(decide ((xs.length : Int) = (ys.length : Int)))) rfl rfl rfl rfl ?_
 refine wpo_nil ?_
 refine wpf_cond rfl (fun h101 => ?_) (fun h101 => ?_)
 ·
  have h102 := nt_t h101
  have h103 := of_decide_eq_false h102
  refine wpf_seq_region ?_
  refine wpo_assign (v := .bool false) rfl rfl ?_
  refine wpo_nil ?_
  refine wpf_ret ?_
  refine thn_r ?_
  refine ⟨.bool false, res1 rfl rfl, ?_, hb0⟩
  exact congrArg Value.bool (decide_eq_false (fun h => by have := congrArg List.length h; omega)).symm
 ·
  have h104 := nt_f h101
  have h105 := of_decide_eq_true h104
  refine wpf_skip ?_
  refine thn_n ?_
  refine wpf_seq ?_
  refine wpf_seq_region ?_
  refine wpo_assign (v := .int .i64 0) rfl rfl ?_
  refine wpo_nil ?_
  refine wpf_block ?_
  refine wpf_loopN (fun mm f' w' => ∃ (k : Nat), mm = xs.length - k ∧ k ≤ xs.length ∧ xs.take k = ys.take k ∧ f' 5 = .int .i64 (k : Int) ∧ f' 0 = .slice a xs.length c ∧ f' 1 = .slice b ys.length e ∧ w.grownBy w' none) (xs.length - 0) ⟨0, rfl, (Nat.zero_le _), rfl, rfl, rfl, rfl, hb0⟩ ?_
  rintro mm f106 w107 ⟨k, hm109, hk, ha, e110, e111, e112, hb108⟩
  refine wpf_seq ?_
  refine wpf_seq_region ?_
  refine wpo_move (v := .int .i64 (k : Int)) e110 rfl ?_
  refine wpo_move (v := .slice a xs.length c) e111 rfl ?_
  refine wpo_len (by kernel_rfl) rfl rfl ?_
  refine wpo_lss (q := decide ((k : Int) < (xs.length : Int))) rfl rfl rfl rfl ?_
  refine wpo_nil ?_
  refine wpf_cond rfl (fun h113 => ?_) (fun h113 => ?_)
  ·
   have h114 := of_decide_eq_true h113
   refine wpf_skip ?_
   refine thn_n ?_
   refine wpf_seq ?_
   refine wpf_block ?_
   refine wpf_seq ?_
   obtain ⟨x147, hx148⟩ := get_lt (l := xs) (i := k) (by omega)
   obtain ⟨b149, q150, o151, ha152, ho153, hr154⟩ := SlAt.at hs (map_get hx148)
   obtain ⟨x155, hx156⟩ := get_lt (l := ys) (i := k) (by omega)
   obtain ⟨b157, q158, o159, ha160, ho161, hr162⟩ := SlAt.at ht (map_get hx156)
   refine wpf_draw (m := 8) (vals := [(17, .slice a xs.length c), (18, .int .i64 (k : Int)), (19, .pointer (some ⟨b149, o151, none⟩)), (20, .int .i64 x147), (21, .slice b ys.length e), (22, .int .i64 (k : Int)), (23, .pointer (some ⟨b157, o159, none⟩)), (24, .int .i64 x155)]) (fun w' => w107.grownBy w' none) mixed_ (by kernel_rfl) (grown_drew _) ?_ ?_
   ·
    refine yll_cons rfl (fun w163 hi164 => ?_) ?_
    ·
     have hb165 := low0 hb108 hi164
     refine wpo_move (v := .slice a xs.length c) e111 rfl ?_
     exact wpo_nil ⟨rfl, hi164⟩
    refine yll_cons rfl (fun w166 hi167 => ?_) ?_
    ·
     have hb168 := low0 hb108 hi167
     refine wpo_move (v := .int .i64 (k : Int)) e110 rfl ?_
     exact wpo_nil ⟨rfl, hi167⟩
    refine yll_cons rfl (fun w169 hi170 => ?_) ?_
    ·
     have hb171 := low0 hb108 hi170
     refine wpo_indexE es_33 rfl rfl ha152 ho153 (by omega) (by omega) rfl ?_
     exact wpo_nil ⟨rfl, hi170⟩
    refine yll_cons rfl (fun w172 hi173 => ?_) ?_
    ·
     have hb174 := low0 hb108 hi173
     refine wpo_load1 (v := .int .i64 x147) ot_3 rfl ((range_low hr154 hb174) 0 _ rfl) rfl ?_
     exact wpo_nil ⟨rfl, hi173⟩
    refine yll_cons rfl (fun w175 hi176 => ?_) ?_
    ·
     have hb177 := low0 hb108 hi176
     refine wpo_move (v := .slice b ys.length e) e112 rfl ?_
     exact wpo_nil ⟨rfl, hi176⟩
    refine yll_cons rfl (fun w178 hi179 => ?_) ?_
    ·
     have hb180 := low0 hb108 hi179
     refine wpo_move (v := .int .i64 (k : Int)) e110 rfl ?_
     exact wpo_nil ⟨rfl, hi179⟩
    refine yll_cons rfl (fun w181 hi182 => ?_) ?_
    ·
     have hb183 := low0 hb108 hi182
     refine wpo_indexE es_33 rfl rfl ha160 ho161 (by omega) (by omega) rfl ?_
     exact wpo_nil ⟨rfl, hi182⟩
    refine yll_cons rfl (fun w184 hi185 => ?_) ?_
    ·
     have hb186 := low0 hb108 hi185
     refine wpo_load1 (v := .int .i64 x155) ot_3 rfl ((range_low hr162 hb186) 0 _ rfl) rfl ?_
     exact wpo_nil ⟨rfl, hi185⟩
    exact yll_nil
   ·
    intro w187 hi188
    have hb189 := low0 hb108 hi188
    refine wpo_neq (q := !(decide (x147 = x155))) rfl rfl rfl rfl ?_
    refine wpo_nil ?_
    refine thn_n ?_
    refine wpf_cond rfl (fun h190 => ?_) (fun h190 => ?_)
    ·
     have h191 := nt_t h190
     have h192 := of_decide_eq_false h191
     refine wpf_seq_region ?_
     refine wpo_assign (v := .bool false) rfl rfl ?_
     refine wpo_nil ?_
     refine wpf_ret ?_
     refine blk_r ?_
     refine thn_r ?_
     refine thn_r ?_
     refine blk_r ?_
     refine thn_r ?_
     refine ⟨.bool false, res1 rfl rfl, ?_, hb189⟩
     exact congrArg Value.bool (decide_eq_false (ne_of_at hx148 hx156 (of_decide_eq_false h191))).symm
    ·
     have h193 := nt_f h190
     have h194 := of_decide_eq_true h193
     refine wpf_skip ?_
     refine blk_n ?_
     refine thn_n ?_
     refine wpf_region ?_
     refine wpo_move (v := .int .i64 (k : Int)) e110 rfl ?_
     refine wpo_add (c := (k : Int) + 1) rfl rfl (by omega) (by omega) (by omega) rfl ?_
     refine wpo_assign (v := .int .i64 ((k : Int) + 1)) rfl rfl ?_
     refine wpo_nil ?_
     refine thn_n ?_
     exact ⟨xs.length - (k + 1), by omega, (k + 1), rfl, (by omega), (take_eq_succ ha hx148 hx156 (of_decide_eq_true h193)), rfl, e111, e112, hb189⟩
  ·
   have h195 := of_decide_eq_false h113
   refine wpf_exit ?_
   refine thn_e ?_
   refine thn_e ?_
   refine blk_e ?_
   refine thn_n ?_
   refine wpf_seq_region ?_
   refine wpo_assign (v := .bool true) rfl rfl ?_
   refine wpo_nil ?_
   refine wpf_ret ?_
   refine ⟨.bool true, res1 rfl rfl, ?_, hb108⟩
   exact congrArg Value.bool (decide_eq_true (eq_of_take ha (by omega) (by omega))).symm
theorem eqThing_c [Comp] (m p : MTh) (w : World) (ha : ThAt w m) (hb : ThAt w p) (hla : m.t.slots.length ≤ 1048576 ∧ m.t.queue.length ≤ 1048576) (hlb : p.t.slots.length ≤ 1048576 ∧ p.t.queue.length ≤ 1048576) : CallsR Try.prog 65 #[.agg #[.int .i64 m.t.kind, .int .i64 m.t.lab.s, .int .i64 m.t.lab.v, .int .i64 m.t.ve, .int .i64 m.t.num, .slice m.sa m.t.slots.length m.sc, .slice m.qa m.t.queue.length m.qc, .int .i64 m.t.to], .agg #[.int .i64 p.t.kind, .int .i64 p.t.lab.s, .int .i64 p.t.lab.v, .int .i64 p.t.ve, .int .i64 p.t.num, .slice p.sa p.t.slots.length p.sc, .slice p.qa p.t.queue.length p.qc, .int .i64 p.t.to]] w (fun v w' => v = .bool (decide (m.t = p.t)) ∧ w.grownBy w' none) := by
 refine calls_of_wpf (n := 43) Try.func65 rfl Try.ntmps65 rfl ?_
 have hb0 := World.grownBy.refl w none
 refine wpf_seq_region ?_
 refine wpo_box (v := .agg #[.int .i64 m.t.kind, .int .i64 m.t.lab.s, .int .i64 m.t.lab.v, .int .i64 m.t.ve, .int .i64 m.t.num, .slice m.sa m.t.slots.length m.sc, .slice m.qa m.t.queue.length m.qc, .int .i64 m.t.to]) (cs := #[.int .i64 m.t.kind, .int .i64 m.t.lab.s, .int .i64 m.t.lab.v, .int .i64 m.t.ve, .int .i64 m.t.num, .slice m.sa m.t.slots.length m.sc, .slice m.qa m.t.queue.length m.qc, .int .i64 m.t.to]) rfl rfl rfl ?_
 intro B101 w102 hN103
 have hlB101 := hN_ge hN103 hb0
 have hb104 := low0 hb0 hN103.grw
 refine wpo_box (v := .agg #[.int .i64 p.t.kind, .int .i64 p.t.lab.s, .int .i64 p.t.lab.v, .int .i64 p.t.ve, .int .i64 p.t.num, .slice p.sa p.t.slots.length p.sc, .slice p.qa p.t.queue.length p.qc, .int .i64 p.t.to]) (cs := #[.int .i64 p.t.kind, .int .i64 p.t.lab.s, .int .i64 p.t.lab.v, .int .i64 p.t.ve, .int .i64 p.t.num, .slice p.sa p.t.slots.length p.sc, .slice p.qa p.t.queue.length p.qc, .int .i64 p.t.to]) rfl rfl rfl ?_
 intro B105 w106 hN107
 have hlB105 := hN_ge hN107 hb104
 have lt_B101_B105 := hN_gtl hN107 (hN103.blk).lt
 have hb108 := low0 hb104 hN107.grw
 refine wpo_assign (v := .bool false) rfl rfl ?_
 refine wpo_nil ?_
 refine wpf_seq ?_
 refine wpf_seq_region ?_
 refine wpo_fieldAddr (o' := 0) fo_35_0 rfl rfl rfl ?_
 have k109 := (hN103.blk.grown0 hN107.grw)
 refine wpo_load1 (v := .int .i64 m.t.kind) ot_3 rfl (k109.cell rfl) rfl ?_
 refine wpo_fieldAddr (o' := 0) fo_35_0 rfl rfl rfl ?_
 refine wpo_load1 (v := .int .i64 p.t.kind) ot_3 rfl (hN107.blk.cell rfl) rfl ?_
 refine wpo_neq (q := !(decide (m.t.kind = p.t.kind))) rfl rfl rfl rfl ?_
 refine wpo_nil ?_
 refine wpf_cond rfl (fun h110 => ?_) (fun h110 => ?_)
 ·
  have h111 := nt_t h110
  have h112 := of_decide_eq_false h111
  refine wpf_seq_region ?_
  refine wpo_assign (v := .bool false) rfl rfl ?_
  refine wpo_nil ?_
  refine wpf_ret ?_
  refine thn_r ?_
  refine ⟨.bool false, res1 rfl rfl, ?_, hb108⟩
  exact congrArg Value.bool (decide_eq_false (fun h => of_decide_eq_false h111 (congrArg Th.kind h))).symm
 ·
  have h113 := nt_f h110
  have h114 := of_decide_eq_true h113
  refine wpf_skip ?_
  refine thn_n ?_
  refine wpf_seq ?_
  refine wpf_seq_region ?_
  refine wpo_fieldAddr (o' := 1) fo_35_1 rfl rfl rfl ?_
  refine wpo_loadn (vs := [.int .i64 m.t.lab.s, .int .i64 m.t.lab.v]) rt_25 rfl rfl (k109.rangeL 1 2 rfl) rfl ?_
  refine wpo_fieldAddr (o' := 1) fo_35_1 rfl rfl rfl ?_
  refine wpo_loadn (vs := [.int .i64 p.t.lab.s, .int .i64 p.t.lab.v]) rt_25 rfl rfl (hN107.blk.rangeL 1 2 rfl) rfl ?_
  refine wpo_call (vs := [.agg #[.int .i64 m.t.lab.s, .int .i64 m.t.lab.v], .agg #[.int .i64 p.t.lab.s, .int .i64 p.t.lab.v]]) gf_106 (args_cons rfl (args_cons rfl args_nil)) rfl (eqLabel_c m.t.lab p.t.lab _) ?_
  rintro _ w115 ⟨rfl, hg116⟩
  have hb117 := low0 hb108 hg116
  refine wpo_not (b' := !(decide (m.t.lab = p.t.lab))) rfl rfl rfl ?_
  refine wpo_nil ?_
  refine wpf_cond rfl (fun h118 => ?_) (fun h118 => ?_)
  ·
   have h119 := nt_t h118
   have h120 := of_decide_eq_false h119
   refine wpf_seq_region ?_
   refine wpo_assign (v := .bool false) rfl rfl ?_
   refine wpo_nil ?_
   refine wpf_ret ?_
   refine thn_r ?_
   refine ⟨.bool false, res1 rfl rfl, ?_, hb117⟩
   exact congrArg Value.bool (decide_eq_false (fun h => of_decide_eq_false h119 (congrArg Th.lab h))).symm
  ·
   have h121 := nt_f h118
   have h122 := of_decide_eq_true h121
   refine wpf_skip ?_
   refine thn_n ?_
   refine wpf_seq ?_
   refine wpf_seq_region ?_
   refine wpo_fieldAddr (o' := 3) fo_35_2 rfl rfl rfl ?_
   have k123 := (k109.grown0 hg116)
   refine wpo_load1 (v := .int .i64 m.t.ve) ot_3 rfl (k123.cell rfl) rfl ?_
   refine wpo_fieldAddr (o' := 3) fo_35_2 rfl rfl rfl ?_
   have k124 := (hN107.blk.grown0 hg116)
   refine wpo_load1 (v := .int .i64 p.t.ve) ot_3 rfl (k124.cell rfl) rfl ?_
   refine wpo_neq (q := !(decide (m.t.ve = p.t.ve))) rfl rfl rfl rfl ?_
   refine wpo_nil ?_
   refine wpf_cond rfl (fun h125 => ?_) (fun h125 => ?_)
   ·
    have h126 := nt_t h125
    have h127 := of_decide_eq_false h126
    refine wpf_seq_region ?_
    refine wpo_assign (v := .bool false) rfl rfl ?_
    refine wpo_nil ?_
    refine wpf_ret ?_
    refine thn_r ?_
    refine ⟨.bool false, res1 rfl rfl, ?_, hb117⟩
    exact congrArg Value.bool (decide_eq_false (fun h => of_decide_eq_false h126 (congrArg Th.ve h))).symm
   ·
    have h128 := nt_f h125
    have h129 := of_decide_eq_true h128
    refine wpf_skip ?_
    refine thn_n ?_
    refine wpf_seq ?_
    refine wpf_seq_region ?_
    refine wpo_fieldAddr (o' := 4) fo_35_3 rfl rfl rfl ?_
    refine wpo_load1 (v := .int .i64 m.t.num) ot_3 rfl (k123.cell rfl) rfl ?_
    refine wpo_fieldAddr (o' := 4) fo_35_3 rfl rfl rfl ?_
    refine wpo_load1 (v := .int .i64 p.t.num) ot_3 rfl (k124.cell rfl) rfl ?_
    refine wpo_neq (q := !(decide (m.t.num = p.t.num))) rfl rfl rfl rfl ?_
    refine wpo_nil ?_
    refine wpf_cond rfl (fun h130 => ?_) (fun h130 => ?_)
    ·
     have h131 := nt_t h130
     have h132 := of_decide_eq_false h131
     refine wpf_seq_region ?_
     refine wpo_assign (v := .bool false) rfl rfl ?_
     refine wpo_nil ?_
     refine wpf_ret ?_
     refine thn_r ?_
     refine ⟨.bool false, res1 rfl rfl, ?_, hb117⟩
     exact congrArg Value.bool (decide_eq_false (fun h => of_decide_eq_false h131 (congrArg Th.num h))).symm
    ·
     have h133 := nt_f h130
     have h134 := of_decide_eq_true h133
     refine wpf_skip ?_
     refine thn_n ?_
     refine wpf_seq ?_
     refine wpf_seq_region ?_
     refine wpo_fieldAddr (o' := 5) fo_35_4 rfl rfl rfl ?_
     refine wpo_load1 (v := .slice m.sa m.t.slots.length m.sc) ot_32 rfl (k123.cell rfl) rfl ?_
     refine wpo_fieldAddr (o' := 5) fo_35_4 rfl rfl rfl ?_
     refine wpo_load1 (v := .slice p.sa p.t.slots.length p.sc) ot_32 rfl (k124.cell rfl) rfl ?_
     refine wpo_call (vs := [.slice m.sa m.t.slots.length m.sc, .slice p.sa p.t.slots.length p.sc]) gf_107 (args_cons rfl (args_cons rfl args_nil)) rfl (eqRightS_c _ m.t.slots p.t.slots _ _ _ _ (SlAt.low ha.1 hb117) (SlAt.low hb.1 hb117) (by first | omega | exact Nat.le_of_ble_eq_true rfl | (simp only [List.length_nil, List.length_cons, List.length_append, List.length_replicate]; omega)) (by first | omega | exact Nat.le_of_ble_eq_true rfl | (simp only [List.length_nil, List.length_cons, List.length_append, List.length_replicate]; omega))) ?_
     rintro _ w135 ⟨rfl, hg136⟩
     have hb137 := low0 hb117 hg136
     refine wpo_not (b' := !(decide (m.t.slots = p.t.slots))) rfl rfl rfl ?_
     refine wpo_nil ?_
     refine wpf_cond rfl (fun h138 => ?_) (fun h138 => ?_)
     ·
      have h139 := nt_t h138
      have h140 := of_decide_eq_false h139
      refine wpf_seq_region ?_
      refine wpo_assign (v := .bool false) rfl rfl ?_
      refine wpo_nil ?_
      refine wpf_ret ?_
      refine thn_r ?_
      refine ⟨.bool false, res1 rfl rfl, ?_, hb137⟩
      exact congrArg Value.bool (decide_eq_false (fun h => of_decide_eq_false h139 (congrArg Th.slots h))).symm
     ·
      have h141 := nt_f h138
      have h142 := of_decide_eq_true h141
      refine wpf_skip ?_
      refine thn_n ?_
      refine wpf_seq ?_
      refine wpf_seq_region ?_
      refine wpo_fieldAddr (o' := 6) fo_35_5 rfl rfl rfl ?_
      have k143 := (k123.grown0 hg136)
      refine wpo_load1 (v := .slice m.qa m.t.queue.length m.qc) ot_33 rfl (k143.cell rfl) rfl ?_
      refine wpo_fieldAddr (o' := 6) fo_35_5 rfl rfl rfl ?_
      have k144 := (k124.grown0 hg136)
      refine wpo_load1 (v := .slice p.qa p.t.queue.length p.qc) ot_33 rfl (k144.cell rfl) rfl ?_
      refine wpo_call (vs := [.slice m.qa m.t.queue.length m.qc, .slice p.qa p.t.queue.length p.qc]) gf_108 (args_cons rfl (args_cons rfl args_nil)) rfl (eqIntS_c _ m.t.queue p.t.queue _ _ _ _ (SlAt.low ha.2.1 hb137) (SlAt.low hb.2.1 hb137) (by first | omega | exact Nat.le_of_ble_eq_true rfl | (simp only [List.length_nil, List.length_cons, List.length_append, List.length_replicate]; omega)) (by first | omega | exact Nat.le_of_ble_eq_true rfl | (simp only [List.length_nil, List.length_cons, List.length_append, List.length_replicate]; omega))) ?_
      rintro _ w145 ⟨rfl, hg146⟩
      have hb147 := low0 hb137 hg146
      refine wpo_not (b' := !(decide (m.t.queue = p.t.queue))) rfl rfl rfl ?_
      refine wpo_nil ?_
      refine wpf_cond rfl (fun h148 => ?_) (fun h148 => ?_)
      ·
       have h149 := nt_t h148
       have h150 := of_decide_eq_false h149
       refine wpf_seq_region ?_
       refine wpo_assign (v := .bool false) rfl rfl ?_
       refine wpo_nil ?_
       refine wpf_ret ?_
       refine thn_r ?_
       refine ⟨.bool false, res1 rfl rfl, ?_, hb147⟩
       exact congrArg Value.bool (decide_eq_false (fun h => of_decide_eq_false h149 (congrArg Th.queue h))).symm
      ·
       have h151 := nt_f h148
       have h152 := of_decide_eq_true h151
       refine wpf_skip ?_
       refine thn_n ?_
       refine wpf_seq ?_
       refine wpf_seq_region ?_
       refine wpo_fieldAddr (o' := 7) fo_35_6 rfl rfl rfl ?_
       have k153 := (k143.grown0 hg146)
       refine wpo_load1 (v := .int .i64 m.t.to) ot_3 rfl (k153.cell rfl) rfl ?_
       refine wpo_fieldAddr (o' := 7) fo_35_6 rfl rfl rfl ?_
       have k154 := (k144.grown0 hg146)
       refine wpo_load1 (v := .int .i64 p.t.to) ot_3 rfl (k154.cell rfl) rfl ?_
       refine wpo_neq (q := !(decide (m.t.to = p.t.to))) rfl rfl rfl rfl ?_
       refine wpo_nil ?_
       refine wpf_cond rfl (fun h155 => ?_) (fun h155 => ?_)
       ·
        have h156 := nt_t h155
        have h157 := of_decide_eq_false h156
        refine wpf_seq_region ?_
        refine wpo_assign (v := .bool false) rfl rfl ?_
        refine wpo_nil ?_
        refine wpf_ret ?_
        refine thn_r ?_
        refine ⟨.bool false, res1 rfl rfl, ?_, hb147⟩
        exact congrArg Value.bool (decide_eq_false (fun h => of_decide_eq_false h156 (congrArg Th.to h))).symm
       ·
        have h158 := nt_f h155
        have h159 := of_decide_eq_true h158
        refine wpf_skip ?_
        refine thn_n ?_
        refine wpf_seq_region ?_
        refine wpo_assign (v := .bool true) rfl rfl ?_
        refine wpo_nil ?_
        refine wpf_ret ?_
        refine ⟨.bool true, res1 rfl rfl, ?_, hb147⟩
        exact congrArg Value.bool (decide_eq_true (th_ext (of_decide_eq_true h113) (of_decide_eq_true h121) (of_decide_eq_true h128) (of_decide_eq_true h133) (of_decide_eq_true h141) (of_decide_eq_true h151) (of_decide_eq_true h158))).symm
theorem toLabel_c [Comp] (l : Lab) (w : World) : CallsR Try.prog 30 #[.agg #[.int .i64 l.s, .int .i64 l.v]] w (fun v w' => v = .agg #[.int .i64 l.s, .int .i64 l.v] ∧ w.grownBy w' none) := by
 refine calls_of_wpf (n := 11) Try.func30 rfl Try.ntmps30 rfl ?_
 have hb0 := World.grownBy.refl w none
 refine wpf_seq_region ?_
 refine wpo_box (v := .agg #[.int .i64 l.s, .int .i64 l.v]) (cs := #[.int .i64 l.s, .int .i64 l.v]) rfl rfl rfl ?_
 intro B101 w102 hN103
 have hlB101 := hN_ge hN103 hb0
 have hb104 := low0 hb0 hN103.grw
 refine wpo_alloc (cs := #[.int .i64 0, .int .i64 0]) zt_25 rfl rfl ?_
 intro B105 w106 hN107
 have hlB105 := hN_ge hN107 hb104
 have lt_B101_B105 := hN_gtl hN107 (hN103.blk).lt
 have hb108 := low0 hb104 hN107.grw
 refine wpo_nil ?_
 refine wpf_seq_region ?_
 refine wpo_alloc (cs := #[.int .i64 0, .int .i64 0]) zt_25 rfl rfl ?_
 intro B109 w110 hN111
 have hlB109 := hN_ge hN111 hb108
 have k112 := (hN103.blk.grown0 hN107.grw)
 have lt_B101_B109 := hN_gtl hN111 (k112).lt
 have lt_B105_B109 := hN_gtl hN111 (hN107.blk).lt
 have hb113 := low0 hb108 hN111.grw
 refine wpo_nil ?_
 refine wpf_seq_region ?_
 refine wpo_fieldAddr (o' := 0) fo_50_0 rfl rfl rfl ?_
 have k114 := (k112.grown0 hN111.grw)
 refine wpo_load1 (v := .int .i64 l.s) ot_3 rfl (k114.cell rfl) rfl ?_
 refine wpo_fieldAddr (o' := 0) fo_25_0 rfl rfl rfl ?_
 refine wpo_store1 (v := .int .i64 l.s) (cs' := #[.int .i64 l.s, .int .i64 0]) ot_3 rfl rfl rfl hN111.blk (Nat.le_of_ble_eq_true rfl) rfl ?_
 intro w115 hS116
 have hb117 := low1 hb113 hS116.grw (by omega)
 refine wpo_nil ?_
 refine wpf_seq_region ?_
 refine wpo_fieldAddr (o' := 1) fo_50_1 rfl rfl rfl ?_
 have k118 := (k114.gn hS116.grw)
 refine wpo_load1 (v := .int .i64 l.v) ot_3 rfl (k118.cell rfl) rfl ?_
 refine wpo_fieldAddr (o' := 1) fo_25_1 rfl rfl rfl ?_
 refine wpo_store1 (v := .int .i64 l.v) (cs' := #[.int .i64 l.s, .int .i64 l.v]) ot_3 rfl rfl rfl hS116.blk (Nat.le_of_ble_eq_true rfl) rfl ?_
 intro w119 hS120
 have hb121 := low1 hb117 hS120.grw (by omega)
 refine wpo_nil ?_
 refine wpf_seq_region ?_
 refine wpo_loadn (vs := [.int .i64 l.s, .int .i64 l.v]) rt_25 rfl rfl (hS120.blk.rangeL 0 2 rfl) rfl ?_
 have k122 := (((hN107.blk.grown0 hN111.grw).gn hS116.grw).gn hS120.grw)
 refine wpo_storen (vs := [.int .i64 l.s, .int .i64 l.v]) (cs' := #[.int .i64 l.s, .int .i64 l.v]) rt_25 rfl rfl rfl (by simp [Value.oneCell']) k122 (Nat.le_of_ble_eq_true rfl) rfl ?_
 intro w123 hS124
 have hb125 := low1 hb121 hS124.grw (by omega)
 refine wpo_nil ?_
 refine wpf_ret ?_
 refine ⟨.agg #[.int .i64 l.s, .int .i64 l.v], resC rfl (resCell_mk (vs := [.int .i64 l.s, .int .i64 l.v]) rt_25 rfl rfl (hS124.blk.rangeL 0 2 rfl)), ?_, hb125⟩
 rfl
theorem markRightS_c [Comp] (n : Int) (hn0 : 0 ≤ n ∧ n ≤ 1125899906842624) (S sc : Nat) (xs : List Rt) (w : World) (hS : Dw.Own w S 74 5 sc xs.length (xs.flatMap Rt.cells)) (hl : xs.length ≤ 1048576) : CallsR Try.prog 66 #[.slice (some ⟨S, 0, none⟩) xs.length sc, .int .i64 n] w (fun v w' => v = .int .i64 (n + 5 * (xs.length : Int)) ∧ Dw.Own w' S 74 5 sc ((List.range xs.length).map (fun i : Nat => mkRt (n + 5 * (i : Int)))).length (((List.range xs.length).map (fun i : Nat => mkRt (n + 5 * (i : Int)))).flatMap Rt.cells) ∧ w.grownBy w' (some S)) := by
 refine calls_of_wpf (n := 54) Try.func66 rfl Try.ntmps66 rfl ?_
 have hb0 := World.grownBy.refl w (some S)
 have hSlt := hS.lt
 refine wpf_seq_region ?_
 refine wpo_assign (v := .int .i64 0) rfl rfl ?_
 refine wpo_nil ?_
 refine wpf_seq ?_
 refine wpf_seq_region ?_
 refine wpo_assign (v := .int .i64 0) rfl rfl ?_
 refine wpo_nil ?_
 refine wpf_block ?_
 refine wpf_loopN (fun mm f' w' => ∃ (k : Nat), mm = xs.length - k ∧ k ≤ xs.length ∧ (markR n xs k).length = xs.length ∧ f' 1 = .int .i64 (n + 5 * (k : Int)) ∧ f' 5 = .int .i64 (k : Int) ∧ f' 0 = .slice (some ⟨S, 0, none⟩) xs.length sc ∧ f' 4 = .int .i64 0 ∧ w.grownBy w' (some S) ∧ Dw.Own w' S 74 5 sc (markR n xs k).length ((markR n xs k).flatMap Rt.cells)) (xs.length - 0) ⟨0, rfl, (Nat.zero_le _), (by rw [markR_zero]), (congrArg (Value.int .i64) (by omega)), rfl, rfl, rfl, hb0, (by rw [markR_zero]; exact hS)⟩ ?_
 rintro mm f101 w102 ⟨k, hm104, hk, hkl, e105, e106, e107, e108, hb103, k109⟩
 refine wpf_seq ?_
 refine wpf_seq_region ?_
 refine wpo_move (v := .int .i64 (k : Int)) e106 rfl ?_
 refine wpo_move (v := .slice (some ⟨S, 0, none⟩) xs.length sc) e107 rfl ?_
 refine wpo_len (by kernel_rfl) rfl rfl ?_
 refine wpo_lss (q := decide ((k : Int) < (xs.length : Int))) rfl rfl rfl rfl ?_
 refine wpo_nil ?_
 refine wpf_cond rfl (fun h110 => ?_) (fun h110 => ?_)
 ·
  have h111 := of_decide_eq_true h110
  refine wpf_skip ?_
  refine thn_n ?_
  refine wpf_seq ?_
  refine wpf_block ?_
  refine wpf_seq_region ?_
  refine wpo_move (v := .slice (some ⟨S, 0, none⟩) xs.length sc) e107 rfl ?_
  refine wpo_move (v := .int .i64 (k : Int)) e106 rfl ?_
  refine wpo_move (v := .int .i64 (n + 5 * (k : Int))) e105 rfl ?_
  refine wpo_indexAddr (o' := k * 5) es_32 rfl rfl (by omega) (by omega) (by omega) rfl ?_
  refine wpo_fieldAddr (o' := k * 5) fo_74_0 rfl rfl rfl ?_
  obtain ⟨x115, hx116⟩ := get_lt (l := markR n xs k) (i := k) (by omega)
  refine wpo_store1O (g := Rt.cells) (j := 0) (z := x115) (z' := ⟨n + 5 * (k : Int), x115.ve, x115.rd, x115.wr, x115.wk⟩) (v := .int .i64 (n + 5 * (k : Int))) ot_3 rfl rfl rfl wide_rt k109 hx116 (by omega) rfl rfl ?_
  intro w112 hO113 hg114
  have hb117 := grown_trans hb103 hg114
  refine wpo_nil ?_
  refine wpf_seq_region ?_
  refine wpo_move (v := .int .i64 (n + 5 * (k : Int))) e105 rfl ?_
  refine wpo_add (c := n + 5 * (k : Int) + 1) rfl rfl (by omega) (by omega) (by omega) rfl ?_
  refine wpo_assign (v := .int .i64 (n + 5 * (k : Int) + 1)) rfl rfl ?_
  refine wpo_nil ?_
  refine wpf_seq_region ?_
  refine wpo_move (v := .slice (some ⟨S, 0, none⟩) xs.length sc) e107 rfl ?_
  refine wpo_move (v := .int .i64 (k : Int)) e106 rfl ?_
  refine wpo_move (v := .int .i64 (n + 5 * (k : Int) + 1)) rfl rfl ?_
  refine wpo_indexAddr (o' := k * 5) es_32 rfl rfl (by omega) (by omega) (by omega) rfl ?_
  refine wpo_fieldAddr (o' := k * 5 + 1) fo_74_1 rfl rfl rfl ?_
  refine wpo_store1O (g := Rt.cells) (j := 1) (z := ⟨n + 5 * (k : Int), x115.ve, x115.rd, x115.wr, x115.wk⟩) (z' := ⟨n + 5 * (k : Int), n + 5 * (k : Int) + 1, x115.rd, x115.wr, x115.wk⟩) (v := .int .i64 (n + 5 * (k : Int) + 1)) ot_3 rfl rfl rfl wide_rt hO113 (get_set hx116) (by omega) rfl rfl ?_
  intro w118 hO119 hg120
  have hb121 := grown_trans hb117 hg120
  refine wpo_nil ?_
  refine wpf_seq_region ?_
  refine wpo_move (v := .int .i64 (n + 5 * (k : Int) + 1)) rfl rfl ?_
  refine wpo_add (c := n + 5 * (k : Int) + 1 + 1) rfl rfl (by omega) (by omega) (by omega) rfl ?_
  refine wpo_assign (v := .int .i64 (n + 5 * (k : Int) + 1 + 1)) rfl rfl ?_
  refine wpo_nil ?_
  refine wpf_seq_region ?_
  refine wpo_move (v := .slice (some ⟨S, 0, none⟩) xs.length sc) e107 rfl ?_
  refine wpo_move (v := .int .i64 (k : Int)) e106 rfl ?_
  refine wpo_move (v := .int .i64 (n + 5 * (k : Int) + 1 + 1)) rfl rfl ?_
  refine wpo_rem (c := (n + 5 * (k : Int) + 1 + 1) % 3) rfl rfl (by omega) (by omega) (by omega) rfl rfl ?_
  refine wpo_eql (q := decide ((n + 5 * (k : Int) + 1 + 1) % 3 = 0)) rfl rfl rfl rfl ?_
  refine wpo_indexAddr (o' := k * 5) es_32 rfl rfl (by omega) (by omega) (by omega) rfl ?_
  refine wpo_fieldAddr (o' := k * 5 + 2) fo_74_2 rfl rfl rfl ?_
  refine wpo_store1O (g := Rt.cells) (j := 2) (z := ⟨n + 5 * (k : Int), n + 5 * (k : Int) + 1, x115.rd, x115.wr, x115.wk⟩) (z' := ⟨n + 5 * (k : Int), n + 5 * (k : Int) + 1, decide ((n + 5 * (k : Int) + 1 + 1) % 3 = 0), x115.wr, x115.wk⟩) (v := .bool (decide ((n + 5 * (k : Int) + 1 + 1) % 3 = 0))) ot_4 rfl rfl rfl wide_rt (Own.set2 hO119) (get_set hx116) (by omega) rfl rfl ?_
  intro w122 hO123 hg124
  have hb125 := grown_trans hb121 hg124
  refine wpo_nil ?_
  refine wpf_seq_region ?_
  refine wpo_move (v := .int .i64 (n + 5 * (k : Int) + 1 + 1)) rfl rfl ?_
  refine wpo_add (c := n + 5 * (k : Int) + 1 + 1 + 1) rfl rfl (by omega) (by omega) (by omega) rfl ?_
  refine wpo_assign (v := .int .i64 (n + 5 * (k : Int) + 1 + 1 + 1)) rfl rfl ?_
  refine wpo_nil ?_
  refine wpf_seq_region ?_
  refine wpo_move (v := .slice (some ⟨S, 0, none⟩) xs.length sc) e107 rfl ?_
  refine wpo_move (v := .int .i64 (k : Int)) e106 rfl ?_
  refine wpo_move (v := .int .i64 (n + 5 * (k : Int) + 1 + 1 + 1)) rfl rfl ?_
  refine wpo_rem (c := (n + 5 * (k : Int) + 1 + 1 + 1) % 3) rfl rfl (by omega) (by omega) (by omega) rfl rfl ?_
  refine wpo_eql (q := decide ((n + 5 * (k : Int) + 1 + 1 + 1) % 3 = 0)) rfl rfl rfl rfl ?_
  refine wpo_indexAddr (o' := k * 5) es_32 rfl rfl (by omega) (by omega) (by omega) rfl ?_
  refine wpo_fieldAddr (o' := k * 5 + 3) fo_74_3 rfl rfl rfl ?_
  refine wpo_store1O (g := Rt.cells) (j := 3) (z := ⟨n + 5 * (k : Int), n + 5 * (k : Int) + 1, decide ((n + 5 * (k : Int) + 1 + 1) % 3 = 0), x115.wr, x115.wk⟩) (z' := ⟨n + 5 * (k : Int), n + 5 * (k : Int) + 1, decide ((n + 5 * (k : Int) + 1 + 1) % 3 = 0), decide ((n + 5 * (k : Int) + 1 + 1 + 1) % 3 = 0), x115.wk⟩) (v := .bool (decide ((n + 5 * (k : Int) + 1 + 1 + 1) % 3 = 0))) ot_4 rfl rfl rfl wide_rt (Own.set2 hO123) (get_set hx116) (by omega) rfl rfl ?_
  intro w126 hO127 hg128
  have hb129 := grown_trans hb125 hg128
  refine wpo_nil ?_
  refine wpf_seq_region ?_
  refine wpo_move (v := .int .i64 (n + 5 * (k : Int) + 1 + 1 + 1)) rfl rfl ?_
  refine wpo_add (c := n + 5 * (k : Int) + 1 + 1 + 1 + 1) rfl rfl (by omega) (by omega) (by omega) rfl ?_
  refine wpo_assign (v := .int .i64 (n + 5 * (k : Int) + 1 + 1 + 1 + 1)) rfl rfl ?_
  refine wpo_nil ?_
  refine wpf_seq_region ?_
  refine wpo_move (v := .slice (some ⟨S, 0, none⟩) xs.length sc) e107 rfl ?_
  refine wpo_move (v := .int .i64 (k : Int)) e106 rfl ?_
  refine wpo_move (v := .int .i64 (n + 5 * (k : Int) + 1 + 1 + 1 + 1)) rfl rfl ?_
  refine wpo_rem (c := (n + 5 * (k : Int) + 1 + 1 + 1 + 1) % 3) rfl rfl (by omega) (by omega) (by omega) rfl rfl ?_
  refine wpo_eql (q := decide ((n + 5 * (k : Int) + 1 + 1 + 1 + 1) % 3 = 0)) rfl rfl rfl rfl ?_
  refine wpo_indexAddr (o' := k * 5) es_32 rfl rfl (by omega) (by omega) (by omega) rfl ?_
  refine wpo_fieldAddr (o' := k * 5 + 4) fo_74_4 rfl rfl rfl ?_
  refine wpo_store1O (g := Rt.cells) (j := 4) (z := ⟨n + 5 * (k : Int), n + 5 * (k : Int) + 1, decide ((n + 5 * (k : Int) + 1 + 1) % 3 = 0), decide ((n + 5 * (k : Int) + 1 + 1 + 1) % 3 = 0), x115.wk⟩) (z' := ⟨n + 5 * (k : Int), n + 5 * (k : Int) + 1, decide ((n + 5 * (k : Int) + 1 + 1) % 3 = 0), decide ((n + 5 * (k : Int) + 1 + 1 + 1) % 3 = 0), decide ((n + 5 * (k : Int) + 1 + 1 + 1 + 1) % 3 = 0)⟩) (v := .bool (decide ((n + 5 * (k : Int) + 1 + 1 + 1 + 1) % 3 = 0))) ot_4 rfl rfl rfl wide_rt (Own.set2 hO127) (get_set hx116) (by omega) rfl rfl ?_
  intro w130 hO131 hg132
  have hb133 := grown_trans hb129 hg132
  refine wpo_nil ?_
  refine wpf_region ?_
  refine wpo_move (v := .int .i64 (n + 5 * (k : Int) + 1 + 1 + 1 + 1)) rfl rfl ?_
  refine wpo_add (c := n + 5 * (k : Int) + 1 + 1 + 1 + 1 + 1) rfl rfl (by omega) (by omega) (by omega) rfl ?_
  refine wpo_assign (v := .int .i64 (n + 5 * (k : Int) + 1 + 1 + 1 + 1 + 1)) rfl rfl ?_
  refine wpo_nil ?_
  refine blk_n ?_
  refine thn_n ?_
  refine wpf_region ?_
  refine wpo_move (v := .int .i64 (k : Int)) e106 rfl ?_
  refine wpo_add (c := (k : Int) + 1) rfl rfl (by omega) (by omega) (by omega) rfl ?_
  refine wpo_assign (v := .int .i64 ((k : Int) + 1)) rfl rfl ?_
  refine wpo_nil ?_
  refine thn_n ?_
  exact ⟨xs.length - (k + 1), by omega, (k + 1), rfl, (by omega), (markR_len (by omega)), (congrArg (Value.int .i64) (by omega)), rfl, e107, e108, hb133, (by have kk := (Own.set2 hO131); rw [markR_set (by omega)] at kk; exact kk)⟩
 ·
  have h134 := of_decide_eq_false h110
  refine wpf_exit ?_
  refine thn_e ?_
  refine thn_e ?_
  refine blk_e ?_
  refine thn_n ?_
  refine wpf_seq_region ?_
  refine wpo_move (v := .int .i64 (n + 5 * (k : Int))) e105 rfl ?_
  refine wpo_assign (v := .int .i64 (n + 5 * (k : Int))) rfl rfl ?_
  refine wpo_nil ?_
  refine wpf_ret ?_
  have hke : k = xs.length := by omega
  refine ⟨.int .i64 (n + 5 * (k : Int)), res1 rfl rfl, congrArg (Value.int .i64) (by omega), ?_, hb103⟩
  have kk := k109
  rw [markR_all (by omega), hke] at kk
  exact kk
theorem markIntS_c [Comp] (n : Int) (hn0 : 0 ≤ n ∧ n ≤ 1125899906842624) (S sc : Nat) (xs : List Int) (w : World) (hS : Dw.Own w S 3 1 sc xs.length (xs.flatMap icell)) (hl : xs.length ≤ 1048576) : CallsR Try.prog 67 #[.slice (some ⟨S, 0, none⟩) xs.length sc, .int .i64 n] w (fun v w' => v = .int .i64 (n + (xs.length : Int)) ∧ Dw.Own w' S 3 1 sc ((List.range xs.length).map (fun i : Nat => n + (i : Int))).length (((List.range xs.length).map (fun i : Nat => n + (i : Int))).flatMap icell) ∧ w.grownBy w' (some S)) := by
 refine calls_of_wpf (n := 19) Try.func67 rfl Try.ntmps67 rfl ?_
 have hb0 := World.grownBy.refl w (some S)
 have hSlt := hS.lt
 refine wpf_seq_region ?_
 refine wpo_assign (v := .int .i64 0) rfl rfl ?_
 refine wpo_nil ?_
 refine wpf_seq ?_
 refine wpf_seq_region ?_
 refine wpo_assign (v := .int .i64 0) rfl rfl ?_
 refine wpo_nil ?_
 refine wpf_block ?_
 refine wpf_loopN (fun mm f' w' => ∃ (k : Nat), mm = xs.length - k ∧ k ≤ xs.length ∧ (markI n xs k).length = xs.length ∧ f' 1 = .int .i64 (n + (k : Int)) ∧ f' 5 = .int .i64 (k : Int) ∧ f' 0 = .slice (some ⟨S, 0, none⟩) xs.length sc ∧ f' 4 = .int .i64 0 ∧ w.grownBy w' (some S) ∧ Dw.Own w' S 3 1 sc (markI n xs k).length ((markI n xs k).flatMap icell)) (xs.length - 0) ⟨0, rfl, (Nat.zero_le _), (by rw [markI_zero]), (congrArg (Value.int .i64) (by omega)), rfl, rfl, rfl, hb0, (by rw [markI_zero]; exact hS)⟩ ?_
 rintro mm f101 w102 ⟨k, hm104, hk, hkl, e105, e106, e107, e108, hb103, k109⟩
 refine wpf_seq ?_
 refine wpf_seq_region ?_
 refine wpo_move (v := .int .i64 (k : Int)) e106 rfl ?_
 refine wpo_move (v := .slice (some ⟨S, 0, none⟩) xs.length sc) e107 rfl ?_
 refine wpo_len (by kernel_rfl) rfl rfl ?_
 refine wpo_lss (q := decide ((k : Int) < (xs.length : Int))) rfl rfl rfl rfl ?_
 refine wpo_nil ?_
 refine wpf_cond rfl (fun h110 => ?_) (fun h110 => ?_)
 ·
  have h111 := of_decide_eq_true h110
  refine wpf_skip ?_
  refine thn_n ?_
  refine wpf_seq ?_
  refine wpf_block ?_
  refine wpf_seq_region ?_
  refine wpo_move (v := .slice (some ⟨S, 0, none⟩) xs.length sc) e107 rfl ?_
  refine wpo_move (v := .int .i64 (k : Int)) e106 rfl ?_
  refine wpo_move (v := .int .i64 (n + (k : Int))) e105 rfl ?_
  refine wpo_indexAddr (o' := k * 1) es_33 rfl rfl (by omega) (by omega) (by omega) rfl ?_
  obtain ⟨x115, hx116⟩ := get_lt (l := markI n xs k) (i := k) (by omega)
  refine wpo_store1O (g := icell) (j := 0) (z := x115) (z' := n + (k : Int)) (v := .int .i64 (n + (k : Int))) ot_3 rfl rfl rfl wide_int k109 hx116 (by omega) rfl rfl ?_
  intro w112 hO113 hg114
  have hb117 := grown_trans hb103 hg114
  refine wpo_nil ?_
  refine wpf_region ?_
  refine wpo_move (v := .int .i64 (n + (k : Int))) e105 rfl ?_
  refine wpo_add (c := n + (k : Int) + 1) rfl rfl (by omega) (by omega) (by omega) rfl ?_
  refine wpo_assign (v := .int .i64 (n + (k : Int) + 1)) rfl rfl ?_
  refine wpo_nil ?_
  refine blk_n ?_
  refine thn_n ?_
  refine wpf_region ?_
  refine wpo_move (v := .int .i64 (k : Int)) e106 rfl ?_
  refine wpo_add (c := (k : Int) + 1) rfl rfl (by omega) (by omega) (by omega) rfl ?_
  refine wpo_assign (v := .int .i64 ((k : Int) + 1)) rfl rfl ?_
  refine wpo_nil ?_
  refine thn_n ?_
  exact ⟨xs.length - (k + 1), by omega, (k + 1), rfl, (by omega), (markI_len (by omega)), (congrArg (Value.int .i64) (by omega)), rfl, e107, e108, hb117, (by have kk := hO113; rw [markI_set (by omega)] at kk; exact kk)⟩
 ·
  have h118 := of_decide_eq_false h110
  refine wpf_exit ?_
  refine thn_e ?_
  refine thn_e ?_
  refine blk_e ?_
  refine thn_n ?_
  refine wpf_seq_region ?_
  refine wpo_move (v := .int .i64 (n + (k : Int))) e105 rfl ?_
  refine wpo_assign (v := .int .i64 (n + (k : Int))) rfl rfl ?_
  refine wpo_nil ?_
  refine wpf_ret ?_
  have hke : k = xs.length := by omega
  refine ⟨.int .i64 (n + (k : Int)), res1 rfl rfl, congrArg (Value.int .i64) (by omega), ?_, hb103⟩
  have kk := k109
  rw [markI_all (by omega), hke] at kk
  exact kk
theorem markRightS_0 [Comp] (n : Int) (a : Option Addr) (c : Nat) (w : World) : CallsR Try.prog 66 #[.slice a 0 c, .int .i64 n] w (fun v w' => v = .int .i64 n ∧ w.grownBy w' none) := by
 refine calls_of_wpf (n := 54) Try.func66 rfl Try.ntmps66 rfl ?_
 have hb0 := World.grownBy.refl w none
 refine wpf_seq_region ?_
 refine wpo_assign (v := .int .i64 0) rfl rfl ?_
 refine wpo_nil ?_
 refine wpf_seq ?_
 refine wpf_seq_region ?_
 refine wpo_assign (v := .int .i64 0) rfl rfl ?_
 refine wpo_nil ?_
 refine wpf_block ?_
 refine wpf_loopN (fun mm f' w' => mm = 0 ∧ f' 1 = .int .i64 n ∧ f' 5 = .int .i64 0 ∧ f' 0 = .slice a 0 c ∧ f' 4 = .int .i64 0 ∧ w.grownBy w' none) (0) ⟨rfl, rfl, rfl, rfl, rfl, hb0⟩ ?_
 rintro mm f101 w102 ⟨hm104, e105, e106, e107, e108, hb103⟩
 refine wpf_seq ?_
 refine wpf_seq_region ?_
 refine wpo_move (v := .int .i64 0) e106 rfl ?_
 refine wpo_move (v := .slice a 0 c) e107 rfl ?_
 refine wpo_len (by kernel_rfl) rfl rfl ?_
 refine wpo_lss (q := false) rfl rfl (by decide) rfl ?_
 refine wpo_nil ?_
 refine wpf_condf rfl rfl ?_
 refine wpf_exit ?_
 refine thn_e ?_
 refine thn_e ?_
 refine blk_e ?_
 refine thn_n ?_
 refine wpf_seq_region ?_
 refine wpo_move (v := .int .i64 n) e105 rfl ?_
 refine wpo_assign (v := .int .i64 n) rfl rfl ?_
 refine wpo_nil ?_
 refine wpf_ret ?_
 refine ⟨.int .i64 n, res1 rfl rfl, rfl, hb103⟩
theorem markIntS_0 [Comp] (n : Int) (a : Option Addr) (c : Nat) (w : World) : CallsR Try.prog 67 #[.slice a 0 c, .int .i64 n] w (fun v w' => v = .int .i64 n ∧ w.grownBy w' none) := by
 refine calls_of_wpf (n := 19) Try.func67 rfl Try.ntmps67 rfl ?_
 have hb0 := World.grownBy.refl w none
 refine wpf_seq_region ?_
 refine wpo_assign (v := .int .i64 0) rfl rfl ?_
 refine wpo_nil ?_
 refine wpf_seq ?_
 refine wpf_seq_region ?_
 refine wpo_assign (v := .int .i64 0) rfl rfl ?_
 refine wpo_nil ?_
 refine wpf_block ?_
 refine wpf_loopN (fun mm f' w' => mm = 0 ∧ f' 1 = .int .i64 n ∧ f' 5 = .int .i64 0 ∧ f' 0 = .slice a 0 c ∧ f' 4 = .int .i64 0 ∧ w.grownBy w' none) (0) ⟨rfl, rfl, rfl, rfl, rfl, hb0⟩ ?_
 rintro mm f101 w102 ⟨hm104, e105, e106, e107, e108, hb103⟩
 refine wpf_seq ?_
 refine wpf_seq_region ?_
 refine wpo_move (v := .int .i64 0) e106 rfl ?_
 refine wpo_move (v := .slice a 0 c) e107 rfl ?_
 refine wpo_len (by kernel_rfl) rfl rfl ?_
 refine wpo_lss (q := false) rfl rfl (by decide) rfl ?_
 refine wpo_nil ?_
 refine wpf_condf rfl rfl ?_
 refine wpf_exit ?_
 refine thn_e ?_
 refine thn_e ?_
 refine blk_e ?_
 refine thn_n ?_
 refine wpf_seq_region ?_
 refine wpo_move (v := .int .i64 n) e105 rfl ?_
 refine wpo_assign (v := .int .i64 n) rfl rfl ?_
 refine wpo_nil ?_
 refine wpf_ret ?_
 refine ⟨.int .i64 n, res1 rfl rfl, rfl, hb103⟩
theorem heldRightS_0 [Comp] (n : Int) (a : Option Addr) (c : Nat) (w : World) : CallsR Try.prog 68 #[.slice a 0 c, .int .i64 n] w (fun v w' => v = .int .i64 n ∧ w.grownBy w' none) := by
 refine calls_of_wpf (n := 64) Try.func68 rfl Try.ntmps68 rfl ?_
 have hb0 := World.grownBy.refl w none
 refine wpf_seq_region ?_
 refine wpo_assign (v := .int .i64 0) rfl rfl ?_
 refine wpo_nil ?_
 refine wpf_seq ?_
 refine wpf_seq_region ?_
 refine wpo_assign (v := .int .i64 0) rfl rfl ?_
 refine wpo_nil ?_
 refine wpf_block ?_
 refine wpf_loopN (fun mm f' w' => mm = 0 ∧ f' 1 = .int .i64 n ∧ f' 5 = .int .i64 0 ∧ f' 0 = .slice a 0 c ∧ w.grownBy w' none) (0) ⟨rfl, rfl, rfl, rfl, hb0⟩ ?_
 rintro mm f101 w102 ⟨hm104, e105, e106, e107, hb103⟩
 refine wpf_seq ?_
 refine wpf_seq_region ?_
 refine wpo_move (v := .int .i64 0) e106 rfl ?_
 refine wpo_move (v := .slice a 0 c) e107 rfl ?_
 refine wpo_len (by kernel_rfl) rfl rfl ?_
 refine wpo_lss (q := false) rfl rfl (by decide) rfl ?_
 refine wpo_nil ?_
 refine wpf_condf rfl rfl ?_
 refine wpf_exit ?_
 refine thn_e ?_
 refine thn_e ?_
 refine blk_e ?_
 refine thn_n ?_
 refine wpf_seq_region ?_
 refine wpo_move (v := .int .i64 n) e105 rfl ?_
 refine wpo_assign (v := .int .i64 n) rfl rfl ?_
 refine wpo_nil ?_
 refine wpf_ret ?_
 refine ⟨.int .i64 n, res1 rfl rfl, rfl, hb103⟩
theorem heldIntS_0 [Comp] (n : Int) (a : Option Addr) (c : Nat) (w : World) : CallsR Try.prog 69 #[.slice a 0 c, .int .i64 n] w (fun v w' => v = .int .i64 n ∧ w.grownBy w' none) := by
 refine calls_of_wpf (n := 21) Try.func69 rfl Try.ntmps69 rfl ?_
 have hb0 := World.grownBy.refl w none
 refine wpf_seq_region ?_
 refine wpo_assign (v := .int .i64 0) rfl rfl ?_
 refine wpo_nil ?_
 refine wpf_seq ?_
 refine wpf_seq_region ?_
 refine wpo_assign (v := .int .i64 0) rfl rfl ?_
 refine wpo_nil ?_
 refine wpf_block ?_
 refine wpf_loopN (fun mm f' w' => mm = 0 ∧ f' 1 = .int .i64 n ∧ f' 5 = .int .i64 0 ∧ f' 0 = .slice a 0 c ∧ w.grownBy w' none) (0) ⟨rfl, rfl, rfl, rfl, hb0⟩ ?_
 rintro mm f101 w102 ⟨hm104, e105, e106, e107, hb103⟩
 refine wpf_seq ?_
 refine wpf_seq_region ?_
 refine wpo_move (v := .int .i64 0) e106 rfl ?_
 refine wpo_move (v := .slice a 0 c) e107 rfl ?_
 refine wpo_len (by kernel_rfl) rfl rfl ?_
 refine wpo_lss (q := false) rfl rfl (by decide) rfl ?_
 refine wpo_nil ?_
 refine wpf_condf rfl rfl ?_
 refine wpf_exit ?_
 refine thn_e ?_
 refine thn_e ?_
 refine blk_e ?_
 refine thn_n ?_
 refine wpf_seq_region ?_
 refine wpo_move (v := .int .i64 n) e105 rfl ?_
 refine wpo_assign (v := .int .i64 n) rfl rfl ?_
 refine wpo_nil ?_
 refine wpf_ret ?_
 refine ⟨.int .i64 n, res1 rfl rfl, rfl, hb103⟩
theorem heldRightS_c [Comp] (n : Int) (hn0 : 0 ≤ n ∧ n ≤ 1125899906842624) (S sc : Nat) (xs : List Rt) (w : World) (hS : Dw.Own w S 74 5 sc xs.length (xs.flatMap Rt.cells)) (hl : xs.length ≤ 1048576) (hall : ∀ k : Nat, k < xs.length → xs[k]? = some (mkRt (n + 5 * (k : Int)))) : CallsR Try.prog 68 #[.slice (some ⟨S, 0, none⟩) xs.length sc, .int .i64 n] w (fun v w' => v = .int .i64 (n + 5 * (xs.length : Int)) ∧ w.grownBy w' none) := by
 refine calls_of_wpf (n := 64) Try.func68 rfl Try.ntmps68 rfl ?_
 have hb0 := World.grownBy.refl w none
 have hSlt := hS.lt
 refine wpf_seq_region ?_
 refine wpo_assign (v := .int .i64 0) rfl rfl ?_
 refine wpo_nil ?_
 refine wpf_seq ?_
 refine wpf_seq_region ?_
 refine wpo_assign (v := .int .i64 0) rfl rfl ?_
 refine wpo_nil ?_
 refine wpf_block ?_
 refine wpf_loopN (fun mm f' w' => ∃ (k : Nat), mm = xs.length - k ∧ k ≤ xs.length ∧ f' 1 = .int .i64 (n + 5 * (k : Int)) ∧ f' 5 = .int .i64 (k : Int) ∧ f' 0 = .slice (some ⟨S, 0, none⟩) xs.length sc ∧ w.grownBy w' none ∧ Dw.Own w' S 74 5 sc xs.length (xs.flatMap Rt.cells)) (xs.length - 0) ⟨0, rfl, (Nat.zero_le _), (congrArg (Value.int .i64) (by omega)), rfl, rfl, hb0, hS⟩ ?_
 rintro mm f101 w102 ⟨k, hm104, hk, e105, e106, e107, hb103, k108⟩
 refine wpf_seq ?_
 refine wpf_seq_region ?_
 refine wpo_move (v := .int .i64 (k : Int)) e106 rfl ?_
 refine wpo_move (v := .slice (some ⟨S, 0, none⟩) xs.length sc) e107 rfl ?_
 refine wpo_len (by kernel_rfl) rfl rfl ?_
 refine wpo_lss (q := decide ((k : Int) < (xs.length : Int))) rfl rfl rfl rfl ?_
 refine wpo_nil ?_
 refine wpf_cond rfl (fun h109 => ?_) (fun h109 => ?_)
 ·
  have h110 := of_decide_eq_true h109
  refine wpf_skip ?_
  refine thn_n ?_
  refine wpf_seq ?_
  refine wpf_block ?_
  refine wpf_seq ?_
  refine wpf_seq_region ?_
  refine wpo_move (v := .slice (some ⟨S, 0, none⟩) xs.length sc) e107 rfl ?_
  refine wpo_move (v := .int .i64 (k : Int)) e106 rfl ?_
  refine wpo_indexAddr (o' := k * 5) es_32 rfl rfl (by omega) (by omega) (by omega) rfl ?_
  refine wpo_fieldAddr (o' := k * 5) fo_74_0 rfl rfl rfl ?_
  refine wpo_load1 (v := .int .i64 (n + 5 * (k : Int))) ot_3 rfl ((Own.range wide_rt k108 (hall k (by omega))) 0 _ rfl) rfl ?_
  refine wpo_move (v := .int .i64 (n + 5 * (k : Int))) e105 rfl ?_
  refine wpo_neq (q := false) rfl rfl (by simp) rfl ?_
  refine wpo_nil ?_
  refine wpf_condf rfl rfl ?_
  refine wpf_skip ?_
  refine thn_n ?_
  refine wpf_seq_region ?_
  refine wpo_move (v := .int .i64 (n + 5 * (k : Int))) e105 rfl ?_
  refine wpo_add (c := n + 5 * (k : Int) + 1) rfl rfl (by omega) (by omega) (by omega) rfl ?_
  refine wpo_assign (v := .int .i64 (n + 5 * (k : Int) + 1)) rfl rfl ?_
  refine wpo_nil ?_
  refine wpf_seq ?_
  refine wpf_seq_region ?_
  refine wpo_move (v := .slice (some ⟨S, 0, none⟩) xs.length sc) e107 rfl ?_
  refine wpo_move (v := .int .i64 (k : Int)) e106 rfl ?_
  refine wpo_indexAddr (o' := k * 5) es_32 rfl rfl (by omega) (by omega) (by omega) rfl ?_
  refine wpo_fieldAddr (o' := k * 5 + 1) fo_74_1 rfl rfl rfl ?_
  refine wpo_load1 (v := .int .i64 (n + 5 * (k : Int) + 1)) ot_3 rfl ((Own.range wide_rt k108 (hall k (by omega))) 1 _ rfl) rfl ?_
  refine wpo_move (v := .int .i64 (n + 5 * (k : Int) + 1)) rfl rfl ?_
  refine wpo_neq (q := false) rfl rfl (by simp) rfl ?_
  refine wpo_nil ?_
  refine wpf_condf rfl rfl ?_
  refine wpf_skip ?_
  refine thn_n ?_
  refine wpf_seq_region ?_
  refine wpo_move (v := .int .i64 (n + 5 * (k : Int) + 1)) rfl rfl ?_
  refine wpo_add (c := n + 5 * (k : Int) + 1 + 1) rfl rfl (by omega) (by omega) (by omega) rfl ?_
  refine wpo_assign (v := .int .i64 (n + 5 * (k : Int) + 1 + 1)) rfl rfl ?_
  refine wpo_nil ?_
  refine wpf_seq ?_
  refine wpf_seq_region ?_
  refine wpo_move (v := .slice (some ⟨S, 0, none⟩) xs.length sc) e107 rfl ?_
  refine wpo_move (v := .int .i64 (k : Int)) e106 rfl ?_
  refine wpo_indexAddr (o' := k * 5) es_32 rfl rfl (by omega) (by omega) (by omega) rfl ?_
  refine wpo_fieldAddr (o' := k * 5 + 2) fo_74_2 rfl rfl rfl ?_
  refine wpo_load1 (v := .bool (decide ((n + 5 * (k : Int) + 1 + 1) % 3 = 0))) ot_4 rfl ((Own.range wide_rt k108 (hall k (by omega))) 2 _ rfl) rfl ?_
  refine wpo_move (v := .int .i64 (n + 5 * (k : Int) + 1 + 1)) rfl rfl ?_
  refine wpo_rem (c := (n + 5 * (k : Int) + 1 + 1) % 3) rfl rfl (by omega) (by omega) (by omega) rfl rfl ?_
  refine wpo_eql (q := decide ((n + 5 * (k : Int) + 1 + 1) % 3 = 0)) rfl rfl rfl rfl ?_
  refine wpo_neqb (q := false) (by kernel_rfl) rfl rfl (by simp) rfl ?_
  refine wpo_nil ?_
  refine wpf_condf rfl rfl ?_
  refine wpf_skip ?_
  refine thn_n ?_
  refine wpf_seq_region ?_
  refine wpo_move (v := .int .i64 (n + 5 * (k : Int) + 1 + 1)) rfl rfl ?_
  refine wpo_add (c := n + 5 * (k : Int) + 1 + 1 + 1) rfl rfl (by omega) (by omega) (by omega) rfl ?_
  refine wpo_assign (v := .int .i64 (n + 5 * (k : Int) + 1 + 1 + 1)) rfl rfl ?_
  refine wpo_nil ?_
  refine wpf_seq ?_
  refine wpf_seq_region ?_
  refine wpo_move (v := .slice (some ⟨S, 0, none⟩) xs.length sc) e107 rfl ?_
  refine wpo_move (v := .int .i64 (k : Int)) e106 rfl ?_
  refine wpo_indexAddr (o' := k * 5) es_32 rfl rfl (by omega) (by omega) (by omega) rfl ?_
  refine wpo_fieldAddr (o' := k * 5 + 3) fo_74_3 rfl rfl rfl ?_
  refine wpo_load1 (v := .bool (decide ((n + 5 * (k : Int) + 1 + 1 + 1) % 3 = 0))) ot_4 rfl ((Own.range wide_rt k108 (hall k (by omega))) 3 _ rfl) rfl ?_
  refine wpo_move (v := .int .i64 (n + 5 * (k : Int) + 1 + 1 + 1)) rfl rfl ?_
  refine wpo_rem (c := (n + 5 * (k : Int) + 1 + 1 + 1) % 3) rfl rfl (by omega) (by omega) (by omega) rfl rfl ?_
  refine wpo_eql (q := decide ((n + 5 * (k : Int) + 1 + 1 + 1) % 3 = 0)) rfl rfl rfl rfl ?_
  refine wpo_neqb (q := false) (by kernel_rfl) rfl rfl (by simp) rfl ?_
  refine wpo_nil ?_
  refine wpf_condf rfl rfl ?_
  refine wpf_skip ?_
  refine thn_n ?_
  refine wpf_seq_region ?_
  refine wpo_move (v := .int .i64 (n + 5 * (k : Int) + 1 + 1 + 1)) rfl rfl ?_
  refine wpo_add (c := n + 5 * (k : Int) + 1 + 1 + 1 + 1) rfl rfl (by omega) (by omega) (by omega) rfl ?_
  refine wpo_assign (v := .int .i64 (n + 5 * (k : Int) + 1 + 1 + 1 + 1)) rfl rfl ?_
  refine wpo_nil ?_
  refine wpf_seq ?_
  refine wpf_seq_region ?_
  refine wpo_move (v := .slice (some ⟨S, 0, none⟩) xs.length sc) e107 rfl ?_
  refine wpo_move (v := .int .i64 (k : Int)) e106 rfl ?_
  refine wpo_indexAddr (o' := k * 5) es_32 rfl rfl (by omega) (by omega) (by omega) rfl ?_
  refine wpo_fieldAddr (o' := k * 5 + 4) fo_74_4 rfl rfl rfl ?_
  refine wpo_load1 (v := .bool (decide ((n + 5 * (k : Int) + 1 + 1 + 1 + 1) % 3 = 0))) ot_4 rfl ((Own.range wide_rt k108 (hall k (by omega))) 4 _ rfl) rfl ?_
  refine wpo_move (v := .int .i64 (n + 5 * (k : Int) + 1 + 1 + 1 + 1)) rfl rfl ?_
  refine wpo_rem (c := (n + 5 * (k : Int) + 1 + 1 + 1 + 1) % 3) rfl rfl (by omega) (by omega) (by omega) rfl rfl ?_
  refine wpo_eql (q := decide ((n + 5 * (k : Int) + 1 + 1 + 1 + 1) % 3 = 0)) rfl rfl rfl rfl ?_
  refine wpo_neqb (q := false) (by kernel_rfl) rfl rfl (by simp) rfl ?_
  refine wpo_nil ?_
  refine wpf_condf rfl rfl ?_
  refine wpf_skip ?_
  refine thn_n ?_
  refine wpf_region ?_
  refine wpo_move (v := .int .i64 (n + 5 * (k : Int) + 1 + 1 + 1 + 1)) rfl rfl ?_
  refine wpo_add (c := n + 5 * (k : Int) + 1 + 1 + 1 + 1 + 1) rfl rfl (by omega) (by omega) (by omega) rfl ?_
  refine wpo_assign (v := .int .i64 (n + 5 * (k : Int) + 1 + 1 + 1 + 1 + 1)) rfl rfl ?_
  refine wpo_nil ?_
  refine blk_n ?_
  refine thn_n ?_
  refine wpf_region ?_
  refine wpo_move (v := .int .i64 (k : Int)) e106 rfl ?_
  refine wpo_add (c := (k : Int) + 1) rfl rfl (by omega) (by omega) (by omega) rfl ?_
  refine wpo_assign (v := .int .i64 ((k : Int) + 1)) rfl rfl ?_
  refine wpo_nil ?_
  refine thn_n ?_
  exact ⟨xs.length - (k + 1), by omega, (k + 1), rfl, (by omega), (congrArg (Value.int .i64) (by omega)), rfl, e107, hb103, k108⟩
 ·
  have h111 := of_decide_eq_false h109
  refine wpf_exit ?_
  refine thn_e ?_
  refine thn_e ?_
  refine blk_e ?_
  refine thn_n ?_
  refine wpf_seq_region ?_
  refine wpo_move (v := .int .i64 (n + 5 * (k : Int))) e105 rfl ?_
  refine wpo_assign (v := .int .i64 (n + 5 * (k : Int))) rfl rfl ?_
  refine wpo_nil ?_
  refine wpf_ret ?_
  refine ⟨.int .i64 (n + 5 * (k : Int)), res1 rfl rfl, congrArg (Value.int .i64) (by omega), hb103⟩
theorem heldIntS_c [Comp] (n : Int) (hn0 : 0 ≤ n ∧ n ≤ 1125899906842624) (S sc : Nat) (xs : List Int) (w : World) (hS : Dw.Own w S 3 1 sc xs.length (xs.flatMap icell)) (hl : xs.length ≤ 1048576) (hall : ∀ k : Nat, k < xs.length → xs[k]? = some (n + (k : Int))) : CallsR Try.prog 69 #[.slice (some ⟨S, 0, none⟩) xs.length sc, .int .i64 n] w (fun v w' => v = .int .i64 (n + (xs.length : Int)) ∧ w.grownBy w' none) := by
 refine calls_of_wpf (n := 21) Try.func69 rfl Try.ntmps69 rfl ?_
 have hb0 := World.grownBy.refl w none
 have hSlt := hS.lt
 refine wpf_seq_region ?_
 refine wpo_assign (v := .int .i64 0) rfl rfl ?_
 refine wpo_nil ?_
 refine wpf_seq ?_
 refine wpf_seq_region ?_
 refine wpo_assign (v := .int .i64 0) rfl rfl ?_
 refine wpo_nil ?_
 refine wpf_block ?_
 refine wpf_loopN (fun mm f' w' => ∃ (k : Nat), mm = xs.length - k ∧ k ≤ xs.length ∧ f' 1 = .int .i64 (n + (k : Int)) ∧ f' 5 = .int .i64 (k : Int) ∧ f' 0 = .slice (some ⟨S, 0, none⟩) xs.length sc ∧ w.grownBy w' none ∧ Dw.Own w' S 3 1 sc xs.length (xs.flatMap icell)) (xs.length - 0) ⟨0, rfl, (Nat.zero_le _), (congrArg (Value.int .i64) (by omega)), rfl, rfl, hb0, hS⟩ ?_
 rintro mm f101 w102 ⟨k, hm104, hk, e105, e106, e107, hb103, k108⟩
 refine wpf_seq ?_
 refine wpf_seq_region ?_
 refine wpo_move (v := .int .i64 (k : Int)) e106 rfl ?_
 refine wpo_move (v := .slice (some ⟨S, 0, none⟩) xs.length sc) e107 rfl ?_
 refine wpo_len (by kernel_rfl) rfl rfl ?_
 refine wpo_lss (q := decide ((k : Int) < (xs.length : Int))) rfl rfl rfl rfl ?_
 refine wpo_nil ?_
 refine wpf_cond rfl (fun h109 => ?_) (fun h109 => ?_)
 ·
  have h110 := of_decide_eq_true h109
  refine wpf_skip ?_
  refine thn_n ?_
  refine wpf_seq ?_
  refine wpf_block ?_
  refine wpf_seq ?_
  refine wpf_seq_region ?_
  refine wpo_move (v := .slice (some ⟨S, 0, none⟩) xs.length sc) e107 rfl ?_
  refine wpo_move (v := .int .i64 (k : Int)) e106 rfl ?_
  refine wpo_indexAddr (o' := k * 1) es_33 rfl rfl (by omega) (by omega) (by omega) rfl ?_
  refine wpo_load1 (v := .int .i64 (n + (k : Int))) ot_3 rfl ((Own.range wide_int k108 (hall k (by omega))) 0 _ rfl) rfl ?_
  refine wpo_move (v := .int .i64 (n + (k : Int))) e105 rfl ?_
  refine wpo_neq (q := false) rfl rfl (by simp) rfl ?_
  refine wpo_nil ?_
  refine wpf_condf rfl rfl ?_
  refine wpf_skip ?_
  refine thn_n ?_
  refine wpf_region ?_
  refine wpo_move (v := .int .i64 (n + (k : Int))) e105 rfl ?_
  refine wpo_add (c := n + (k : Int) + 1) rfl rfl (by omega) (by omega) (by omega) rfl ?_
  refine wpo_assign (v := .int .i64 (n + (k : Int) + 1)) rfl rfl ?_
  refine wpo_nil ?_
  refine blk_n ?_
  refine thn_n ?_
  refine wpf_region ?_
  refine wpo_move (v := .int .i64 (k : Int)) e106 rfl ?_
  refine wpo_add (c := (k : Int) + 1) rfl rfl (by omega) (by omega) (by omega) rfl ?_
  refine wpo_assign (v := .int .i64 ((k : Int) + 1)) rfl rfl ?_
  refine wpo_nil ?_
  refine thn_n ?_
  exact ⟨xs.length - (k + 1), by omega, (k + 1), rfl, (by omega), (congrArg (Value.int .i64) (by omega)), rfl, e107, hb103, k108⟩
 ·
  have h111 := of_decide_eq_false h109
  refine wpf_exit ?_
  refine thn_e ?_
  refine thn_e ?_
  refine blk_e ?_
  refine thn_n ?_
  refine wpf_seq_region ?_
  refine wpo_move (v := .int .i64 (n + (k : Int))) e105 rfl ?_
  refine wpo_assign (v := .int .i64 (n + (k : Int))) rfl rfl ?_
  refine wpo_nil ?_
  refine wpf_ret ?_
  refine ⟨.int .i64 (n + (k : Int)), res1 rfl rfl, congrArg (Value.int .i64) (by omega), hb103⟩
end Go.Dw.J
end
section
namespace Go.Dw.J
open Go.RowKit Go.Dw Go.Proofs
set_option linter.unusedSectionVars false
set_option maxRecDepth 100000
set_option maxHeartbeats 4000000
set_option linter.unusedSimpArgs false
set_option linter.unusedVariables false
theorem es_23 : elemSz Try.prog 23 = some 8 := by kernel_rfl
theorem es_49 : elemSz Try.prog 49 = some 8 := by kernel_rfl
theorem fo_92_0 : fieldOff Try.prog 92 0 = some 0 := by kernel_rfl
theorem fo_92_1 : fieldOff Try.prog 92 1 = some 1 := by kernel_rfl
theorem fo_92_2 : fieldOff Try.prog 92 2 = some 3 := by kernel_rfl
theorem fo_92_3 : fieldOff Try.prog 92 3 = some 4 := by kernel_rfl
theorem fo_92_4 : fieldOff Try.prog 92 4 = some 5 := by kernel_rfl
theorem fo_92_5 : fieldOff Try.prog 92 5 = some 6 := by kernel_rfl
theorem fo_92_6 : fieldOff Try.prog 92 6 = some 7 := by kernel_rfl
theorem gf_102 : goFn Try.prog 102 = true := by kernel_rfl
theorem gf_103 : goFn Try.prog 103 = true := by kernel_rfl
theorem gf_104 : goFn Try.prog 104 = true := by kernel_rfl
theorem gf_105 : goFn Try.prog 105 = true := by kernel_rfl
theorem gf_30 : goFn Try.prog 30 = true := by kernel_rfl
theorem gf_56 : goFn Try.prog 56 = true := by kernel_rfl
theorem gf_63 : goFn Try.prog 63 = true := by kernel_rfl
theorem gf_64 : goFn Try.prog 64 = true := by kernel_rfl
theorem gf_65 : goFn Try.prog 65 = true := by kernel_rfl
theorem mk_23 : mkTy Try.prog 23 = some (35, 8, 96, some (.agg #[.int .i64 0, .int .i64 0, .int .i64 0, .int .i64 0, .int .i64 0, .slice none 0 0, .slice none 0 0, .int .i64 0])) := by kernel_rfl
theorem mk_33 : mkTy Try.prog 33 = some (3, 1, 8, some (.int .i64 0)) := by kernel_rfl
theorem ot_90 : oneTy Try.prog 90 = true := by kernel_rfl
theorem rt_50 : rowTy Try.prog 50 = some 2 := by kernel_rfl
theorem rt_92 : rowTy Try.prog 92 = some 8 := by kernel_rfl
theorem szIntS_c [Comp] (m : Int) (w : World) (xs : List Int) (a : Option Addr) (c : Nat) (hn : xs.length ≤ 9223372036854775807) (hm : 0 ≤ m ∧ m ≤ 1048576) : CallsR Try.prog 103 #[.slice a xs.length c, .int .i64 m] w (fun v w' => ∃ n : Int, v = .int .i64 n ∧ (0 ≤ n → (xs.length : Int) + n ≤ m) ∧ -1 ≤ n ∧ n ≤ m ∧ w.grownBy w' none) := by
 refine calls_of_wpf (n := 12) Try.func103 rfl Try.ntmps103 rfl ?_
 have hb0 := World.grownBy.refl w none
 refine wpf_seq_region ?_
 refine wpo_assign (v := .int .i64 0) rfl rfl ?_
 refine wpo_nil ?_
 refine wpf_seq_region ?_
 refine wpo_move (v := .int .i64 m) rfl rfl ?_
 refine wpo_move (v := .slice a xs.length c) rfl rfl ?_
 refine wpo_len (by kernel_rfl) rfl rfl ?_
 refine wpo_sub (c := m - (xs.length : Int)) rfl rfl (by omega) (by omega) (by omega) rfl ?_
 refine wpo_assign (v := .int .i64 (m - (xs.length : Int))) rfl rfl ?_
 refine wpo_nil ?_
 refine wpf_seq ?_
 refine wpf_seq_region ?_
 refine wpo_move (v := .int .i64 (m - (xs.length : Int))) rfl rfl ?_
 refine wpo_lss (q := decide (m - (xs.length : Int) < 0)) rfl rfl rfl rfl ?_
 refine wpo_nil ?_
 refine wpf_cond rfl (fun h101 => ?_) (fun h101 => ?_)
 ·
  have h102 := of_decide_eq_true h101
  refine wpf_seq_region ?_
  refine wpo_assign (v := .int .i64 (-1)) rfl rfl ?_
  refine wpo_nil ?_
  refine wpf_ret ?_
  refine thn_r ?_
  refine ⟨.int .i64 (-1), res1 rfl rfl, (-1), rfl, by omega, by omega, by omega, hb0⟩
 ·
  have h103 := of_decide_eq_false h101
  refine wpf_skip ?_
  refine thn_n ?_
  refine wpf_seq_region ?_
  refine wpo_move (v := .int .i64 (m - (xs.length : Int))) rfl rfl ?_
  refine wpo_assign (v := .int .i64 (m - (xs.length : Int))) rfl rfl ?_
  refine wpo_nil ?_
  refine wpf_ret ?_
  refine ⟨.int .i64 (m - (xs.length : Int)), res1 rfl rfl, (m - (xs.length : Int)), rfl, by omega, by omega, by omega, hb0⟩
theorem szThing_c [Comp] (m : Int) (w : World) (q : MTh) (hq : ThAt w q) (hn : q.t.slots.length ≤ 9223372036854775807 ∧ q.t.queue.length ≤ 9223372036854775807) (hm : 0 ≤ m ∧ m ≤ 1048576) : CallsR Try.prog 63 #[.agg #[.int .i64 q.t.kind, .int .i64 q.t.lab.s, .int .i64 q.t.lab.v, .int .i64 q.t.ve, .int .i64 q.t.num, .slice q.sa q.t.slots.length q.sc, .slice q.qa q.t.queue.length q.qc, .int .i64 q.t.to], .int .i64 m] w (fun v w' => ∃ n : Int, v = .int .i64 n ∧ (0 ≤ n → (q.t.slots.length : Int) + q.t.queue.length + n ≤ m) ∧ -1 ≤ n ∧ n ≤ m ∧ w.grownBy w' none) := by
 refine calls_of_wpf (n := 18) Try.func63 rfl Try.ntmps63 rfl ?_
 have hb0 := World.grownBy.refl w none
 refine wpf_seq_region ?_
 refine wpo_box (v := .agg #[.int .i64 q.t.kind, .int .i64 q.t.lab.s, .int .i64 q.t.lab.v, .int .i64 q.t.ve, .int .i64 q.t.num, .slice q.sa q.t.slots.length q.sc, .slice q.qa q.t.queue.length q.qc, .int .i64 q.t.to]) (cs := #[.int .i64 q.t.kind, .int .i64 q.t.lab.s, .int .i64 q.t.lab.v, .int .i64 q.t.ve, .int .i64 q.t.num, .slice q.sa q.t.slots.length q.sc, .slice q.qa q.t.queue.length q.qc, .int .i64 q.t.to]) rfl rfl rfl ?_
 intro B101 w102 hN103
 have hlB101 := hN_ge hN103 hb0
 have hb104 := low0 hb0 hN103.grw
 refine wpo_assign (v := .int .i64 0) rfl rfl ?_
 refine wpo_nil ?_
 refine wpf_seq_region ?_
 refine wpo_fieldAddr (o' := 5) fo_92_4 rfl rfl rfl ?_
 refine wpo_load1 (v := .slice q.sa q.t.slots.length q.sc) ot_90 rfl (hN103.blk.cell rfl) rfl ?_
 refine wpo_move (v := .int .i64 m) rfl rfl ?_
 refine wpo_call (vs := [.slice q.sa q.t.slots.length q.sc, .int .i64 m]) gf_102 (args_cons rfl (args_cons rfl args_nil)) rfl (szRightS_c m _ q.t.slots _ _ (by omega) (by omega)) ?_
 rintro _ w105 ⟨n107, rfl, hn108, hn109, hn110, hg106⟩
 have hb111 := low0 hb104 hg106
 refine wpo_assign (v := .int .i64 n107) rfl rfl ?_
 refine wpo_nil ?_
 refine wpf_seq ?_
 refine wpf_seq_region ?_
 refine wpo_move (v := .int .i64 n107) rfl rfl ?_
 refine wpo_lss (q := decide (n107 < 0)) rfl rfl rfl rfl ?_
 refine wpo_nil ?_
 refine wpf_cond rfl (fun h112 => ?_) (fun h112 => ?_)
 ·
  have h113 := of_decide_eq_true h112
  refine wpf_seq_region ?_
  refine wpo_assign (v := .int .i64 (-1)) rfl rfl ?_
  refine wpo_nil ?_
  refine wpf_ret ?_
  refine thn_r ?_
  refine ⟨.int .i64 (-1), res1 rfl rfl, (-1), rfl, by omega, by omega, by omega, hb111⟩
 ·
  have h114 := of_decide_eq_false h112
  refine wpf_skip ?_
  refine thn_n ?_
  refine wpf_seq_region ?_
  refine wpo_fieldAddr (o' := 6) fo_92_5 rfl rfl rfl ?_
  have k115 := (hN103.blk.grown0 hg106)
  refine wpo_load1 (v := .slice q.qa q.t.queue.length q.qc) ot_33 rfl (k115.cell rfl) rfl ?_
  refine wpo_move (v := .int .i64 n107) rfl rfl ?_
  refine wpo_call (vs := [.slice q.qa q.t.queue.length q.qc, .int .i64 n107]) gf_103 (args_cons rfl (args_cons rfl args_nil)) rfl (szIntS_c n107 _ q.t.queue _ _ (by omega) (by omega)) ?_
  rintro _ w116 ⟨n118, rfl, hn119, hn120, hn121, hg117⟩
  have hb122 := low0 hb111 hg117
  refine wpo_assign (v := .int .i64 n118) rfl rfl ?_
  refine wpo_nil ?_
  refine wpf_seq ?_
  refine wpf_seq_region ?_
  refine wpo_move (v := .int .i64 n118) rfl rfl ?_
  refine wpo_lss (q := decide (n118 < 0)) rfl rfl rfl rfl ?_
  refine wpo_nil ?_
  refine wpf_cond rfl (fun h123 => ?_) (fun h123 => ?_)
  ·
   have h124 := of_decide_eq_true h123
   refine wpf_seq_region ?_
   refine wpo_assign (v := .int .i64 (-1)) rfl rfl ?_
   refine wpo_nil ?_
   refine wpf_ret ?_
   refine thn_r ?_
   refine ⟨.int .i64 (-1), res1 rfl rfl, (-1), rfl, by omega, by omega, by omega, hb122⟩
  ·
   have h125 := of_decide_eq_false h123
   refine wpf_skip ?_
   refine thn_n ?_
   refine wpf_seq_region ?_
   refine wpo_move (v := .int .i64 n118) rfl rfl ?_
   refine wpo_assign (v := .int .i64 n118) rfl rfl ?_
   refine wpo_nil ?_
   refine wpf_ret ?_
   refine ⟨.int .i64 n118, res1 rfl rfl, n118, rfl, by omega, by omega, by omega, hb122⟩
theorem szThingS_c [Comp] (m : Int) (w : World) (ms : List MTh) (a : Option Addr) (c : Nat) (ht : TabAt w a ms) (hbig : TabBig ms) (hn : ms.length ≤ 9223372036854775807) (hm : 0 ≤ m ∧ m ≤ 1048576) : CallsR Try.prog 28 #[.slice a ms.length c, .int .i64 m] w (fun v w' => ∃ n : Int, v = .int .i64 n ∧ (0 ≤ n → TabLen ms ∧ ms.length ≤ 1048576) ∧ -1 ≤ n ∧ n ≤ 1048576 ∧ w.grownBy w' none) := by
 refine calls_of_wpf (n := 27) Try.func28 rfl Try.ntmps28 rfl ?_
 have hb0 := World.grownBy.refl w none
 refine wpf_seq_region ?_
 refine wpo_assign (v := .int .i64 0) rfl rfl ?_
 refine wpo_nil ?_
 refine wpf_seq_region ?_
 refine wpo_move (v := .int .i64 m) rfl rfl ?_
 refine wpo_move (v := .slice a ms.length c) rfl rfl ?_
 refine wpo_len (by kernel_rfl) rfl rfl ?_
 refine wpo_sub (c := m - (ms.length : Int)) rfl rfl (by omega) (by omega) (by omega) rfl ?_
 refine wpo_assign (v := .int .i64 (m - (ms.length : Int))) rfl rfl ?_
 refine wpo_nil ?_
 refine wpf_seq ?_
 refine wpf_seq_region ?_
 refine wpo_move (v := .int .i64 (m - (ms.length : Int))) rfl rfl ?_
 refine wpo_lss (q := decide (m - (ms.length : Int) < 0)) rfl rfl rfl rfl ?_
 refine wpo_nil ?_
 refine wpf_cond rfl (fun h101 => ?_) (fun h101 => ?_)
 ·
  have h102 := of_decide_eq_true h101
  refine wpf_seq_region ?_
  refine wpo_assign (v := .int .i64 (-1)) rfl rfl ?_
  refine wpo_nil ?_
  refine wpf_ret ?_
  refine thn_r ?_
  refine ⟨.int .i64 (-1), res1 rfl rfl, (-1), rfl, fun h => absurd h (by omega), by omega, by omega, hb0⟩
 ·
  have h103 := of_decide_eq_false h101
  refine wpf_skip ?_
  refine thn_n ?_
  refine wpf_seq ?_
  refine wpf_seq_region ?_
  refine wpo_assign (v := .int .i64 0) rfl rfl ?_
  refine wpo_nil ?_
  refine wpf_block ?_
  refine wpf_loopN (fun mm f' w' => ∃ (k : Nat) (n : Int), mm = ms.length - k ∧ k ≤ ms.length ∧ (0 ≤ n ∧ n ≤ 1048576) ∧ (∀ x ∈ ms.take k, x.t.slots.length ≤ 1048576 ∧ x.t.queue.length ≤ 1048576) ∧ f' 1 = .int .i64 n ∧ f' 5 = .int .i64 (k : Int) ∧ f' 0 = .slice a ms.length c ∧ w.grownBy w' none) (ms.length - 0) ⟨0, (m - (ms.length : Int)), rfl, (Nat.zero_le _), (by omega), (fun x hx => by simp at hx), rfl, rfl, rfl, hb0⟩ ?_
  rintro mm f104 w105 ⟨k, n, hm107, hk, hnn, htl, e108, e109, e110, hb106⟩
  refine wpf_seq ?_
  refine wpf_seq_region ?_
  refine wpo_move (v := .int .i64 (k : Int)) e109 rfl ?_
  refine wpo_move (v := .slice a ms.length c) e110 rfl ?_
  refine wpo_len (by kernel_rfl) rfl rfl ?_
  refine wpo_lss (q := decide ((k : Int) < (ms.length : Int))) rfl rfl rfl rfl ?_
  refine wpo_nil ?_
  refine wpf_cond rfl (fun h111 => ?_) (fun h111 => ?_)
  ·
   have h112 := of_decide_eq_true h111
   refine wpf_skip ?_
   refine thn_n ?_
   refine wpf_seq ?_
   refine wpf_block ?_
   refine wpf_seq_region ?_
   refine wpo_move (v := .slice a ms.length c) e110 rfl ?_
   refine wpo_move (v := .int .i64 (k : Int)) e109 rfl ?_
   obtain ⟨b115, q116, o117, ha118, ho119, hr120⟩ := SlAt.at (TabAt.low ht hb106).1 (map_get (mAt_get (show k < ms.length by omega)))
   have hle121 := TabBig.at hbig (mAt_get (show k < ms.length by omega))
   refine wpo_indexE es_49 rfl rfl ha118 ho119 (by omega) (by omega) rfl ?_
   refine wpo_loadn (vs := [.int .i64 ((mAt ms k).t.kind), .int .i64 ((mAt ms k).t.lab.s), .int .i64 ((mAt ms k).t.lab.v), .int .i64 ((mAt ms k).t.ve), .int .i64 ((mAt ms k).t.num), .slice ((mAt ms k).sa) ((mAt ms k).t.slots.length) ((mAt ms k).sc), .slice ((mAt ms k).qa) ((mAt ms k).t.queue.length) ((mAt ms k).qc), .int .i64 ((mAt ms k).t.to)]) rt_92 rfl rfl (range_sub hr120 0 8 rfl) rfl ?_
   refine wpo_move (v := .int .i64 n) e108 rfl ?_
   refine wpo_call (vs := [.agg #[.int .i64 ((mAt ms k).t.kind), .int .i64 ((mAt ms k).t.lab.s), .int .i64 ((mAt ms k).t.lab.v), .int .i64 ((mAt ms k).t.ve), .int .i64 ((mAt ms k).t.num), .slice ((mAt ms k).sa) ((mAt ms k).t.slots.length) ((mAt ms k).sc), .slice ((mAt ms k).qa) ((mAt ms k).t.queue.length) ((mAt ms k).qc), .int .i64 ((mAt ms k).t.to)], .int .i64 n]) gf_63 (args_cons rfl (args_cons rfl args_nil)) rfl (szThing_c n _ (mAt ms k) (TabAt.th (TabAt.low ht hb106) (mAt_get (show k < ms.length by omega))) (by omega) (by omega)) ?_
   rintro _ w122 ⟨n124, rfl, hn125, hn126, hn127, hg123⟩
   have hb128 := low0 hb106 hg123
   refine wpo_assign (v := .int .i64 n124) rfl rfl ?_
   refine wpo_nil ?_
   refine wpf_seq_region ?_
   refine wpo_move (v := .int .i64 n124) rfl rfl ?_
   refine wpo_lss (q := decide (n124 < 0)) rfl rfl rfl rfl ?_
   refine wpo_nil ?_
   refine wpf_cond rfl (fun h129 => ?_) (fun h129 => ?_)
   ·
    have h130 := of_decide_eq_true h129
    refine wpf_seq_region ?_
    refine wpo_assign (v := .int .i64 (-1)) rfl rfl ?_
    refine wpo_nil ?_
    refine wpf_ret ?_
    refine blk_r ?_
    refine thn_r ?_
    refine thn_r ?_
    refine blk_r ?_
    refine thn_r ?_
    refine ⟨.int .i64 (-1), res1 rfl rfl, (-1), rfl, fun h => absurd h (by omega), by omega, by omega, hb128⟩
   ·
    have h131 := of_decide_eq_false h129
    refine wpf_skip ?_
    refine blk_n ?_
    refine thn_n ?_
    refine wpf_region ?_
    refine wpo_move (v := .int .i64 (k : Int)) e109 rfl ?_
    refine wpo_add (c := (k : Int) + 1) rfl rfl (by omega) (by omega) (by omega) rfl ?_
    refine wpo_assign (v := .int .i64 ((k : Int) + 1)) rfl rfl ?_
    refine wpo_nil ?_
    refine thn_n ?_
    exact ⟨ms.length - (k + 1), by omega, (k + 1), n124, rfl, (by omega), (by omega), (take_len htl (mAt_get (show k < ms.length by omega)) (by omega)), rfl, rfl, e110, hb128⟩
  ·
   have h132 := of_decide_eq_false h111
   refine wpf_exit ?_
   refine thn_e ?_
   refine thn_e ?_
   refine blk_e ?_
   refine thn_n ?_
   refine wpf_seq_region ?_
   refine wpo_move (v := .int .i64 n) e108 rfl ?_
   refine wpo_assign (v := .int .i64 n) rfl rfl ?_
   refine wpo_nil ?_
   refine wpf_ret ?_
   refine ⟨.int .i64 n, res1 rfl rfl, n, rfl, fun _ => ⟨take_len_all htl (by omega), by omega⟩, by omega, by omega, hb106⟩
theorem toIntS_c [Comp] (w : World) (xs : List Int) (a : Option Addr) (c : Nat) (hs : SlAt w a 1 (xs.map icell)) (hn : xs.length ≤ 1048576) : CallsR Try.prog 105 #[.slice a xs.length c] w (fun v w' => ∃ B : Nat, v = .slice (some ⟨B, 0, none⟩) xs.length xs.length ∧ w.heap.size ≤ B ∧ Blk w' B 3 (xs.flatMap icell).toArray ∧ w.grownBy w' none) := by
 refine calls_of_wpf (n := 22) Try.func105 rfl Try.ntmps105 rfl ?_
 have hb0 := World.grownBy.refl w none
 refine wpf_seq_region ?_
 refine wpo_assign (v := .slice none 0 0) rfl rfl ?_
 refine wpo_nil ?_
 refine wpf_seq_region ?_
 refine wpo_move (v := .slice a xs.length c) rfl rfl ?_
 refine wpo_len (by kernel_rfl) rfl rfl ?_
 refine wpo_make (g := icell) (z := (0 : Int)) (c := xs.length) mk_33 rfl wide_int (by omega) rfl rfl (by omega) (by omega) rfl ?_
 intro B101 w102 hN103
 have hlB101 := hN_ge hN103 hb0
 have hb104 := low0 hb0 hN103.grw
 refine wpo_assign (v := .slice (some ⟨B101, 0, none⟩) xs.length xs.length) rfl rfl ?_
 refine wpo_nil ?_
 refine wpf_seq ?_
 refine wpf_seq_region ?_
 refine wpo_assign (v := .int .i64 0) rfl rfl ?_
 refine wpo_nil ?_
 refine wpf_block ?_
 refine wpf_loopN (fun mm f' w' => ∃ (k : Nat), mm = xs.length - k ∧ k ≤ xs.length ∧ (fill xs (0 : Int) k).length = xs.length ∧ f' 4 = .int .i64 (k : Int) ∧ f' 0 = .slice a xs.length c ∧ f' 2 = .slice none 0 0 ∧ f' 3 = .slice (some ⟨B101, 0, none⟩) xs.length xs.length ∧ w.grownBy w' none ∧ Blk w' B101 3 ((fill xs (0 : Int) k).flatMap icell).toArray) (xs.length - 0) ⟨0, rfl, (Nat.zero_le _), (fill_len (Nat.zero_le _)), rfl, rfl, rfl, rfl, hb104, (by rw [fill_zero]; exact hN103.blk)⟩ ?_
 rintro mm f105 w106 ⟨k, hm108, hk, hfl, e109, e110, e111, e112, hb107, k113⟩
 refine wpf_seq ?_
 refine wpf_seq_region ?_
 refine wpo_move (v := .int .i64 (k : Int)) e109 rfl ?_
 refine wpo_move (v := .slice a xs.length c) e110 rfl ?_
 refine wpo_len (by kernel_rfl) rfl rfl ?_
 refine wpo_lss (q := decide ((k : Int) < (xs.length : Int))) rfl rfl rfl rfl ?_
 refine wpo_nil ?_
 refine wpf_cond rfl (fun h114 => ?_) (fun h114 => ?_)
 ·
  have h115 := of_decide_eq_true h114
  refine wpf_skip ?_
  refine thn_n ?_
  refine wpf_seq ?_
  refine wpf_block ?_
  refine wpf_region ?_
  refine wpo_move (v := .slice (some ⟨B101, 0, none⟩) xs.length xs.length) e112 rfl ?_
  refine wpo_move (v := .int .i64 (k : Int)) e109 rfl ?_
  refine wpo_move (v := .slice a xs.length c) e110 rfl ?_
  refine wpo_move (v := .int .i64 (k : Int)) e109 rfl ?_
  obtain ⟨x116, hx117⟩ := get_lt (l := xs) (i := k) (by omega)
  obtain ⟨b118, q119, o120, ha121, ho122, hr123⟩ := SlAt.at hs (map_get hx117)
  refine wpo_indexE es_33 rfl rfl ha121 ho122 (by omega) (by omega) rfl ?_
  refine wpo_load1 (v := .int .i64 x116) ot_3 rfl ((range_low hr123 hb107) 0 _ rfl) rfl ?_
  refine wpo_indexAddr (o' := k * 1) es_33 rfl rfl (by omega) (by omega) (by omega) rfl ?_
  obtain ⟨x126, hx127⟩ := get_lt (l := fill xs (0 : Int) k) (i := k) (by omega)
  refine wpo_store1 (v := .int .i64 x116) (cs' := (((fill xs (0 : Int) k).set k x116).flatMap icell).toArray) ot_3 rfl rfl rfl k113 (rows_lt1 (j := 0) wide_int hx127 (by omega)) (rows_set1 (j := 0) wide_int hx127 x116 (by omega) rfl) ?_
  intro w124 hS125
  have hb128 := low1 hb107 hS125.grw (by omega)
  refine wpo_nil ?_
  refine blk_n ?_
  refine thn_n ?_
  refine wpf_region ?_
  refine wpo_move (v := .int .i64 (k : Int)) e109 rfl ?_
  refine wpo_add (c := (k : Int) + 1) rfl rfl (by omega) (by omega) (by omega) rfl ?_
  refine wpo_assign (v := .int .i64 ((k : Int) + 1)) rfl rfl ?_
  refine wpo_nil ?_
  refine thn_n ?_
  exact ⟨xs.length - (k + 1), by omega, (k + 1), rfl, (by omega), (fill_len (by omega)), rfl, e110, e111, e112, hb128, (by have kk := hS125.blk; rw [fill_set hx117] at kk; exact kk)⟩
 ·
  have h129 := of_decide_eq_false h114
  refine wpf_exit ?_
  refine thn_e ?_
  refine thn_e ?_
  refine blk_e ?_
  refine thn_n ?_
  refine wpf_seq_region ?_
  refine wpo_move (v := .slice (some ⟨B101, 0, none⟩) xs.length xs.length) e112 rfl ?_
  refine wpo_assign (v := .slice (some ⟨B101, 0, none⟩) xs.length xs.length) rfl rfl ?_
  refine wpo_nil ?_
  refine wpf_ret ?_
  refine ⟨.slice (some ⟨B101, 0, none⟩) xs.length xs.length, res1 rfl rfl, B101, rfl, hlB101, ?_, hb107⟩
  have kk := k113
  rw [fill_all (by omega)] at kk
  exact kk
theorem toThing_c [Comp] (w : World) (q : MTh) (hq : ThAt w q) (hn : q.t.slots.length ≤ 1048576 ∧ q.t.queue.length ≤ 1048576) : CallsR Try.prog 64 #[.agg #[.int .i64 q.t.kind, .int .i64 q.t.lab.s, .int .i64 q.t.lab.v, .int .i64 q.t.ve, .int .i64 q.t.num, .slice q.sa q.t.slots.length q.sc, .slice q.qa q.t.queue.length q.qc, .int .i64 q.t.to]] w (fun v w' => ∃ m : MTh, v = .agg #[.int .i64 m.t.kind, .int .i64 m.t.lab.s, .int .i64 m.t.lab.v, .int .i64 m.t.ve, .int .i64 m.t.num, .slice m.sa m.t.slots.length m.sc, .slice m.qa m.t.queue.length m.qc, .int .i64 m.t.to] ∧ m.t = q.t ∧ (∀ b, b < w.heap.size → ThX (some b) w' m) ∧ w.grownBy w' none) := by
 refine calls_of_wpf (n := 29) Try.func64 rfl Try.ntmps64 rfl ?_
 have hb0 := World.grownBy.refl w none
 refine wpf_seq_region ?_
 refine wpo_box (v := .agg #[.int .i64 q.t.kind, .int .i64 q.t.lab.s, .int .i64 q.t.lab.v, .int .i64 q.t.ve, .int .i64 q.t.num, .slice q.sa q.t.slots.length q.sc, .slice q.qa q.t.queue.length q.qc, .int .i64 q.t.to]) (cs := #[.int .i64 q.t.kind, .int .i64 q.t.lab.s, .int .i64 q.t.lab.v, .int .i64 q.t.ve, .int .i64 q.t.num, .slice q.sa q.t.slots.length q.sc, .slice q.qa q.t.queue.length q.qc, .int .i64 q.t.to]) rfl rfl rfl ?_
 intro B101 w102 hN103
 have hlB101 := hN_ge hN103 hb0
 have hb104 := low0 hb0 hN103.grw
 refine wpo_alloc (cs := #[.int .i64 0, .int .i64 0, .int .i64 0, .int .i64 0, .int .i64 0, .slice none 0 0, .slice none 0 0, .int .i64 0]) zt_35 rfl rfl ?_
 intro B105 w106 hN107
 have hlB105 := hN_ge hN107 hb104
 have lt_B101_B105 := hN_gtl hN107 (hN103.blk).lt
 have hb108 := low0 hb104 hN107.grw
 refine wpo_nil ?_
 refine wpf_seq_region ?_
 refine wpo_alloc (cs := #[.int .i64 0, .int .i64 0, .int .i64 0, .int .i64 0, .int .i64 0, .slice none 0 0, .slice none 0 0, .int .i64 0]) zt_35 rfl rfl ?_
 intro B109 w110 hN111
 have hlB109 := hN_ge hN111 hb108
 have k112 := (hN103.blk.grown0 hN107.grw)
 have lt_B101_B109 := hN_gtl hN111 (k112).lt
 have lt_B105_B109 := hN_gtl hN111 (hN107.blk).lt
 have hb113 := low0 hb108 hN111.grw
 refine wpo_nil ?_
 refine wpf_seq_region ?_
 refine wpo_fieldAddr (o' := 0) fo_92_0 rfl rfl rfl ?_
 have k114 := (k112.grown0 hN111.grw)
 refine wpo_load1 (v := .int .i64 q.t.kind) ot_3 rfl (k114.cell rfl) rfl ?_
 refine wpo_fieldAddr (o' := 0) fo_35_0 rfl rfl rfl ?_
 refine wpo_store1 (v := .int .i64 q.t.kind) (cs' := #[.int .i64 q.t.kind, .int .i64 0, .int .i64 0, .int .i64 0, .int .i64 0, .slice none 0 0, .slice none 0 0, .int .i64 0]) ot_3 rfl rfl rfl hN111.blk (Nat.le_of_ble_eq_true rfl) rfl ?_
 intro w115 hS116
 have hb117 := low1 hb113 hS116.grw (by omega)
 refine wpo_nil ?_
 refine wpf_seq_region ?_
 refine wpo_fieldAddr (o' := 1) fo_92_1 rfl rfl rfl ?_
 have k118 := (k114.gn hS116.grw)
 refine wpo_loadn (vs := [.int .i64 q.t.lab.s, .int .i64 q.t.lab.v]) rt_50 rfl rfl (k118.rangeL 1 2 rfl) rfl ?_
 refine wpo_call (vs := [.agg #[.int .i64 q.t.lab.s, .int .i64 q.t.lab.v]]) gf_30 (args_cons rfl args_nil) rfl (toLabel_c q.t.lab _) ?_
 rintro _ w119 ⟨rfl, hg120⟩
 have hb121 := low0 hb117 hg120
 refine wpo_fieldAddr (o' := 1) fo_35_1 rfl rfl rfl ?_
 have k122 := (hS116.blk.grown0 hg120)
 refine wpo_storen (vs := [.int .i64 q.t.lab.s, .int .i64 q.t.lab.v]) (cs' := #[.int .i64 q.t.kind, .int .i64 q.t.lab.s, .int .i64 q.t.lab.v, .int .i64 0, .int .i64 0, .slice none 0 0, .slice none 0 0, .int .i64 0]) rt_25 rfl rfl rfl (by simp [Value.oneCell']) k122 (Nat.le_of_ble_eq_true rfl) rfl ?_
 intro w123 hS124
 have hb125 := low1 hb121 hS124.grw (by omega)
 refine wpo_nil ?_
 refine wpf_seq_region ?_
 refine wpo_fieldAddr (o' := 3) fo_92_2 rfl rfl rfl ?_
 have k126 := ((k118.grown0 hg120).gn hS124.grw)
 refine wpo_load1 (v := .int .i64 q.t.ve) ot_3 rfl (k126.cell rfl) rfl ?_
 refine wpo_fieldAddr (o' := 3) fo_35_2 rfl rfl rfl ?_
 refine wpo_store1 (v := .int .i64 q.t.ve) (cs' := #[.int .i64 q.t.kind, .int .i64 q.t.lab.s, .int .i64 q.t.lab.v, .int .i64 q.t.ve, .int .i64 0, .slice none 0 0, .slice none 0 0, .int .i64 0]) ot_3 rfl rfl rfl hS124.blk (Nat.le_of_ble_eq_true rfl) rfl ?_
 intro w127 hS128
 have hb129 := low1 hb125 hS128.grw (by omega)
 refine wpo_nil ?_
 refine wpf_seq_region ?_
 refine wpo_fieldAddr (o' := 4) fo_92_3 rfl rfl rfl ?_
 have k130 := (k126.gn hS128.grw)
 refine wpo_load1 (v := .int .i64 q.t.num) ot_3 rfl (k130.cell rfl) rfl ?_
 refine wpo_fieldAddr (o' := 4) fo_35_3 rfl rfl rfl ?_
 refine wpo_store1 (v := .int .i64 q.t.num) (cs' := #[.int .i64 q.t.kind, .int .i64 q.t.lab.s, .int .i64 q.t.lab.v, .int .i64 q.t.ve, .int .i64 q.t.num, .slice none 0 0, .slice none 0 0, .int .i64 0]) ot_3 rfl rfl rfl hS128.blk (Nat.le_of_ble_eq_true rfl) rfl ?_
 intro w131 hS132
 have hb133 := low1 hb129 hS132.grw (by omega)
 refine wpo_nil ?_
 refine wpf_seq_region ?_
 refine wpo_fieldAddr (o' := 5) fo_92_4 rfl rfl rfl ?_
 have k134 := (k130.gn hS132.grw)
 refine wpo_load1 (v := .slice q.sa q.t.slots.length q.sc) ot_90 rfl (k134.cell rfl) rfl ?_
 have k135 := ((((((hN107.blk.grown0 hN111.grw).gn hS116.grw).grown0 hg120).gn hS124.grw).gn hS128.grw).gn hS132.grw)
 refine wpo_call (vs := [.slice q.sa q.t.slots.length q.sc]) gf_104 (args_cons rfl args_nil) rfl (toRightS_c _ q.t.slots _ _ (ThAt.low hq hb133).1 (by omega)) ?_
 rintro _ w140 ⟨B136, rfl, hge137, k138, hg139⟩
 have hb141 := low0 hb133 hg139
 have hlB136 := Nat.le_trans hb133.size hge137
 have lt_B101_B136 := Nat.lt_of_lt_of_le (k134).lt hge137
 have lt_B105_B136 := Nat.lt_of_lt_of_le (k135).lt hge137
 have lt_B109_B136 := Nat.lt_of_lt_of_le (hS132.blk).lt hge137
 refine wpo_fieldAddr (o' := 5) fo_35_4 rfl rfl rfl ?_
 have k142 := (hS132.blk.grown0 hg139)
 refine wpo_store1 (v := .slice (some ⟨B136, 0, none⟩) q.t.slots.length q.t.slots.length) (cs' := #[.int .i64 q.t.kind, .int .i64 q.t.lab.s, .int .i64 q.t.lab.v, .int .i64 q.t.ve, .int .i64 q.t.num, .slice (some ⟨B136, 0, none⟩) q.t.slots.length q.t.slots.length, .slice none 0 0, .int .i64 0]) ot_32 rfl rfl rfl k142 (Nat.le_of_ble_eq_true rfl) rfl ?_
 intro w143 hS144
 have hb145 := low1 hb141 hS144.grw (by omega)
 refine wpo_nil ?_
 refine wpf_seq_region ?_
 refine wpo_fieldAddr (o' := 6) fo_92_5 rfl rfl rfl ?_
 have k146 := ((k134.grown0 hg139).gn hS144.grw)
 refine wpo_load1 (v := .slice q.qa q.t.queue.length q.qc) ot_33 rfl (k146.cell rfl) rfl ?_
 have k147 := ((k135.grown0 hg139).gn hS144.grw)
 have k148 := (k138.gn hS144.grw)
 refine wpo_call (vs := [.slice q.qa q.t.queue.length q.qc]) gf_105 (args_cons rfl args_nil) rfl (toIntS_c _ q.t.queue _ _ (ThAt.low hq hb145).2.1 (by omega)) ?_
 rintro _ w153 ⟨B149, rfl, hge150, k151, hg152⟩
 have hb154 := low0 hb145 hg152
 have hlB149 := Nat.le_trans hb145.size hge150
 have lt_B101_B149 := Nat.lt_of_lt_of_le (k146).lt hge150
 have lt_B105_B149 := Nat.lt_of_lt_of_le (k147).lt hge150
 have lt_B109_B149 := Nat.lt_of_lt_of_le (hS144.blk).lt hge150
 have lt_B136_B149 := Nat.lt_of_lt_of_le (k148).lt hge150
 refine wpo_fieldAddr (o' := 6) fo_35_5 rfl rfl rfl ?_
 have k155 := (hS144.blk.grown0 hg152)
 refine wpo_store1 (v := .slice (some ⟨B149, 0, none⟩) q.t.queue.length q.t.queue.length) (cs' := #[.int .i64 q.t.kind, .int .i64 q.t.lab.s, .int .i64 q.t.lab.v, .int .i64 q.t.ve, .int .i64 q.t.num, .slice (some ⟨B136, 0, none⟩) q.t.slots.length q.t.slots.length, .slice (some ⟨B149, 0, none⟩) q.t.queue.length q.t.queue.length, .int .i64 0]) ot_33 rfl rfl rfl k155 (Nat.le_of_ble_eq_true rfl) rfl ?_
 intro w156 hS157
 have hb158 := low1 hb154 hS157.grw (by omega)
 refine wpo_nil ?_
 refine wpf_seq_region ?_
 refine wpo_fieldAddr (o' := 7) fo_92_6 rfl rfl rfl ?_
 have k159 := ((k146.grown0 hg152).gn hS157.grw)
 refine wpo_load1 (v := .int .i64 q.t.to) ot_3 rfl (k159.cell rfl) rfl ?_
 refine wpo_fieldAddr (o' := 7) fo_35_6 rfl rfl rfl ?_
 refine wpo_store1 (v := .int .i64 q.t.to) (cs' := #[.int .i64 q.t.kind, .int .i64 q.t.lab.s, .int .i64 q.t.lab.v, .int .i64 q.t.ve, .int .i64 q.t.num, .slice (some ⟨B136, 0, none⟩) q.t.slots.length q.t.slots.length, .slice (some ⟨B149, 0, none⟩) q.t.queue.length q.t.queue.length, .int .i64 q.t.to]) ot_3 rfl rfl rfl hS157.blk (Nat.le_of_ble_eq_true rfl) rfl ?_
 intro w160 hS161
 have hb162 := low1 hb158 hS161.grw (by omega)
 refine wpo_nil ?_
 refine wpf_seq_region ?_
 refine wpo_loadn (vs := [.int .i64 q.t.kind, .int .i64 q.t.lab.s, .int .i64 q.t.lab.v, .int .i64 q.t.ve, .int .i64 q.t.num, .slice (some ⟨B136, 0, none⟩) q.t.slots.length q.t.slots.length, .slice (some ⟨B149, 0, none⟩) q.t.queue.length q.t.queue.length, .int .i64 q.t.to]) rt_35 rfl rfl (hS161.blk.rangeL 0 8 rfl) rfl ?_
 have k163 := (((k147.grown0 hg152).gn hS157.grw).gn hS161.grw)
 refine wpo_storen (vs := [.int .i64 q.t.kind, .int .i64 q.t.lab.s, .int .i64 q.t.lab.v, .int .i64 q.t.ve, .int .i64 q.t.num, .slice (some ⟨B136, 0, none⟩) q.t.slots.length q.t.slots.length, .slice (some ⟨B149, 0, none⟩) q.t.queue.length q.t.queue.length, .int .i64 q.t.to]) (cs' := #[.int .i64 q.t.kind, .int .i64 q.t.lab.s, .int .i64 q.t.lab.v, .int .i64 q.t.ve, .int .i64 q.t.num, .slice (some ⟨B136, 0, none⟩) q.t.slots.length q.t.slots.length, .slice (some ⟨B149, 0, none⟩) q.t.queue.length q.t.queue.length, .int .i64 q.t.to]) rt_35 rfl rfl rfl (by simp [Value.oneCell']) k163 (Nat.le_of_ble_eq_true rfl) rfl ?_
 intro w164 hS165
 have hb166 := low1 hb162 hS165.grw (by omega)
 refine wpo_nil ?_
 refine wpf_ret ?_
 have k167 := ((((k148.grown0 hg152).gn hS157.grw).gn hS161.grw).gn hS165.grw)
 have k168 := (((k151.gn hS157.grw).gn hS161.grw).gn hS165.grw)
 refine ⟨.agg #[.int .i64 q.t.kind, .int .i64 q.t.lab.s, .int .i64 q.t.lab.v, .int .i64 q.t.ve, .int .i64 q.t.num, .slice (some ⟨B136, 0, none⟩) q.t.slots.length q.t.slots.length, .slice (some ⟨B149, 0, none⟩) q.t.queue.length q.t.queue.length, .int .i64 q.t.to], resC rfl (resCell_mk (vs := [.int .i64 q.t.kind, .int .i64 q.t.lab.s, .int .i64 q.t.lab.v, .int .i64 q.t.ve, .int .i64 q.t.num, .slice (some ⟨B136, 0, none⟩) q.t.slots.length q.t.slots.length, .slice (some ⟨B149, 0, none⟩) q.t.queue.length q.t.queue.length, .int .i64 q.t.to]) rt_35 rfl rfl (hS165.blk.rangeL 0 8 rfl)), ⟨q.t, some ⟨B136, 0, none⟩, q.t.slots.length, some ⟨B149, 0, none⟩, q.t.queue.length⟩, rfl, rfl, fun b hb => ⟨SlX.rows wide_rt k167 (some_ne (by omega)), SlX.rows wide_int k168 (some_ne (by omega)), (fun h => by cases h), (fun h => by cases h)⟩, hb166⟩
theorem toThingS_c [Comp] (w : World) (ms : List MTh) (a : Option Addr) (c : Nat) (ht : TabAt w a ms) (hlen : TabLen ms) (hn : ms.length ≤ 1048576) : CallsR Try.prog 29 #[.slice a ms.length c] w (fun v w' => ∃ (B : Nat) (ys : List MTh), v = .slice (some ⟨B, 0, none⟩) ys.length ys.length ∧ tabT ys = tabT ms ∧ w.heap.size ≤ B ∧ Blk w' B 35 (ys.flatMap MTh.cells).toArray ∧ (∀ m ∈ ys, ThX (some B) w' m) ∧ w.grownBy w' none) := by
 refine calls_of_wpf (n := 23) Try.func29 rfl Try.ntmps29 rfl ?_
 have hb0 := World.grownBy.refl w none
 refine wpf_seq_region ?_
 refine wpo_assign (v := .slice none 0 0) rfl rfl ?_
 refine wpo_nil ?_
 refine wpf_seq_region ?_
 refine wpo_move (v := .slice a ms.length c) rfl rfl ?_
 refine wpo_len (by kernel_rfl) rfl rfl ?_
 refine wpo_make (g := MTh.cells) (z := MTh.zero) (c := ms.length) mk_23 rfl wide_mth (by omega) rfl rfl (by omega) (by omega) rfl ?_
 intro B101 w102 hN103
 have hlB101 := hN_ge hN103 hb0
 have hb104 := low0 hb0 hN103.grw
 refine wpo_assign (v := .slice (some ⟨B101, 0, none⟩) ms.length ms.length) rfl rfl ?_
 refine wpo_nil ?_
 refine wpf_seq ?_
 refine wpf_seq_region ?_
 refine wpo_assign (v := .int .i64 0) rfl rfl ?_
 refine wpo_nil ?_
 refine wpf_block ?_
 refine wpf_loopN (fun mm f' w' => ∃ (k : Nat) (ys : List MTh), mm = ms.length - k ∧ k ≤ ms.length ∧ ys.length = k ∧ tabT ys = (tabT ms).take k ∧ (∀ x ∈ ys, ThX (some B101) w' x) ∧ f' 4 = .int .i64 (k : Int) ∧ f' 0 = .slice a ms.length c ∧ f' 2 = .slice none 0 0 ∧ f' 3 = .slice (some ⟨B101, 0, none⟩) ms.length ms.length ∧ w.grownBy w' none ∧ Blk w' B101 35 ((padM ms.length ys).flatMap MTh.cells).toArray) (ms.length - 0) ⟨0, ([] : List MTh), rfl, (Nat.zero_le _), rfl, rfl, (fun x hx => by simp at hx), rfl, rfl, rfl, rfl, hb104, (by rw [padM_zero]; exact hN103.blk)⟩ ?_
 rintro mm f105 w106 ⟨k, ys, hm108, hk, hyk, hyt, hya, e109, e110, e111, e112, hb107, k113⟩
 refine wpf_seq ?_
 refine wpf_seq_region ?_
 refine wpo_move (v := .int .i64 (k : Int)) e109 rfl ?_
 refine wpo_move (v := .slice a ms.length c) e110 rfl ?_
 refine wpo_len (by kernel_rfl) rfl rfl ?_
 refine wpo_lss (q := decide ((k : Int) < (ms.length : Int))) rfl rfl rfl rfl ?_
 refine wpo_nil ?_
 refine wpf_cond rfl (fun h114 => ?_) (fun h114 => ?_)
 ·
  have h115 := of_decide_eq_true h114
  refine wpf_skip ?_
  refine thn_n ?_
  refine wpf_seq ?_
  refine wpf_block ?_
  refine wpf_region ?_
  refine wpo_move (v := .slice (some ⟨B101, 0, none⟩) ms.length ms.length) e112 rfl ?_
  refine wpo_move (v := .int .i64 (k : Int)) e109 rfl ?_
  refine wpo_move (v := .slice a ms.length c) e110 rfl ?_
  refine wpo_move (v := .int .i64 (k : Int)) e109 rfl ?_
  obtain ⟨b118, q119, o120, ha121, ho122, hr123⟩ := SlAt.at (TabAt.low ht hb107).1 (map_get (mAt_get (show k < ms.length by omega)))
  have hle124 := TabLen.at hlen (mAt_get (show k < ms.length by omega))
  refine wpo_indexE es_49 rfl rfl ha121 ho122 (by omega) (by omega) rfl ?_
  refine wpo_loadn (vs := [.int .i64 ((mAt ms k).t.kind), .int .i64 ((mAt ms k).t.lab.s), .int .i64 ((mAt ms k).t.lab.v), .int .i64 ((mAt ms k).t.ve), .int .i64 ((mAt ms k).t.num), .slice ((mAt ms k).sa) ((mAt ms k).t.slots.length) ((mAt ms k).sc), .slice ((mAt ms k).qa) ((mAt ms k).t.queue.length) ((mAt ms k).qc), .int .i64 ((mAt ms k).t.to)]) rt_92 rfl rfl (range_sub hr123 0 8 rfl) rfl ?_
  refine wpo_call (vs := [.agg #[.int .i64 ((mAt ms k).t.kind), .int .i64 ((mAt ms k).t.lab.s), .int .i64 ((mAt ms k).t.lab.v), .int .i64 ((mAt ms k).t.ve), .int .i64 ((mAt ms k).t.num), .slice ((mAt ms k).sa) ((mAt ms k).t.slots.length) ((mAt ms k).sc), .slice ((mAt ms k).qa) ((mAt ms k).t.queue.length) ((mAt ms k).qc), .int .i64 ((mAt ms k).t.to)]]) gf_64 (args_cons rfl args_nil) rfl (toThing_c _ (mAt ms k) (TabAt.th (TabAt.low ht hb107) (mAt_get (show k < ms.length by omega))) (by omega)) ?_
  rintro _ w129 ⟨m125, rfl, he126, hX127, hg128⟩
  have hb130 := low0 hb107 hg128
  refine wpo_indexAddr (o' := k * 8) es_23 rfl rfl (by omega) (by omega) (by omega) rfl ?_
  have k131 := (k113.grown0 hg128)
  refine wpo_storen (vs := [.int .i64 m125.t.kind, .int .i64 m125.t.lab.s, .int .i64 m125.t.lab.v, .int .i64 m125.t.ve, .int .i64 m125.t.num, .slice m125.sa m125.t.slots.length m125.sc, .slice m125.qa m125.t.queue.length m125.qc, .int .i64 m125.t.to]) (cs' := (((padM ms.length ys).set k m125).flatMap MTh.cells).toArray) rt_35 rfl rfl rfl (by simp [Value.oneCell']) k131 (rows_le wide_mth (by rw [padM_len (by omega)]; omega)) (rows_setA wide_mth (by rw [padM_len (by omega)]; omega) m125) ?_
  intro w132 hS133
  have hb134 := low1 hb130 hS133.grw (by omega)
  refine wpo_nil ?_
  refine blk_n ?_
  refine thn_n ?_
  refine wpf_region ?_
  refine wpo_move (v := .int .i64 (k : Int)) e109 rfl ?_
  refine wpo_add (c := (k : Int) + 1) rfl rfl (by omega) (by omega) (by omega) rfl ?_
  refine wpo_assign (v := .int .i64 ((k : Int) + 1)) rfl rfl ?_
  refine wpo_nil ?_
  refine thn_n ?_
  exact ⟨ms.length - (k + 1), by omega, (k + 1), (ys ++ [m125]), rfl, (by omega), (by rw [List.length_append, hyk]; rfl), (tabT_snoc hyt (mAt_get (show k < ms.length by omega)) he126), (fun x hx => by rcases List.mem_append.1 hx with h | h; exact (((hya x h).low hg128).grown hS133.grw); (have e := List.mem_singleton.1 h; subst e; exact ((hX127 B101 (k113).lt).grown hS133.grw))), rfl, e110, e111, e112, hb134, (by have kk := hS133.blk; rw [padM_set hyk (by omega)] at kk; exact kk)⟩
 ·
  have h135 := of_decide_eq_false h114
  refine wpf_exit ?_
  refine thn_e ?_
  refine thn_e ?_
  refine blk_e ?_
  refine thn_n ?_
  refine wpf_seq_region ?_
  refine wpo_move (v := .slice (some ⟨B101, 0, none⟩) ms.length ms.length) e112 rfl ?_
  refine wpo_assign (v := .slice (some ⟨B101, 0, none⟩) ms.length ms.length) rfl rfl ?_
  refine wpo_nil ?_
  refine wpf_ret ?_
  have hyl : ys.length = ms.length := by omega
  have kk := k113
  rw [padM_all hyl] at kk
  refine ⟨.slice (some ⟨B101, 0, none⟩) ms.length ms.length, res1 rfl rfl, B101, ys, by rw [hyl], tabT_all hyt (by omega), hlB101, kk, hya, hb107⟩
theorem eqThingS_c [Comp] (w : World) (ms ps : List MTh) (a b : Option Addr) (c e : Nat) (ht : TabAt w a ms) (hp : TabAt w b ps) (hlen : TabLen ms) (hlep : TabLen ps) (hn : ms.length ≤ 1048576) (hm : ps.length ≤ 1048576) : CallsR Try.prog 31 #[.slice a ms.length c, .slice b ps.length e] w (fun v w' => v = .bool (decide (tabT ms = tabT ps)) ∧ w.grownBy w' none) := by
 refine calls_of_wpf (n := 27) Try.func31 rfl Try.ntmps31 rfl ?_
 have hb0 := World.grownBy.refl w none
 refine wpf_seq_region ?_
 refine wpo_assign (v := .bool false) rfl rfl ?_
 refine wpo_nil ?_
 refine wpf_seq ?_
 refine wpf_seq_region ?_
 refine wpo_move (v := .slice a ms.length c) rfl rfl ?_
 refine wpo_len (by kernel_rfl) rfl rfl ?_
 refine wpo_move (v := .slice b ps.length e) rfl rfl ?_
 refine wpo_len (by kernel_rfl) rfl rfl ?_
 refine wpo_neq (q := !(decide ((ms.length : Int) = (ps.length : Int)))) rfl rfl rfl rfl ?_
 refine wpo_nil ?_
 refine wpf_cond rfl (fun h101 => ?_) (fun h101 => ?_)
 ·
  have h102 := nt_t h101
  have h103 := of_decide_eq_false h102
  refine wpf_seq_region ?_
  refine wpo_assign (v := .bool false) rfl rfl ?_
  refine wpo_nil ?_
  refine wpf_ret ?_
  refine thn_r ?_
  refine ⟨.bool false, res1 rfl rfl, ?_, hb0⟩
  exact congrArg Value.bool (decide_eq_false (fun h => by have := tabT_length h; omega)).symm
 ·
  have h104 := nt_f h101
  have h105 := of_decide_eq_true h104
  refine wpf_skip ?_
  refine thn_n ?_
  refine wpf_seq ?_
  refine wpf_seq_region ?_
  refine wpo_assign (v := .int .i64 0) rfl rfl ?_
  refine wpo_nil ?_
  refine wpf_block ?_
  refine wpf_loopN (fun mm f' w' => ∃ (k : Nat), mm = ms.length - k ∧ k ≤ ms.length ∧ (tabT ms).take k = (tabT ps).take k ∧ f' 5 = .int .i64 (k : Int) ∧ f' 0 = .slice a ms.length c ∧ f' 1 = .slice b ps.length e ∧ w.grownBy w' none) (ms.length - 0) ⟨0, rfl, (Nat.zero_le _), rfl, rfl, rfl, rfl, hb0⟩ ?_
  rintro mm f106 w107 ⟨k, hm109, hk, ha, e110, e111, e112, hb108⟩
  refine wpf_seq ?_
  refine wpf_seq_region ?_
  refine wpo_move (v := .int .i64 (k : Int)) e110 rfl ?_
  refine wpo_move (v := .slice a ms.length c) e111 rfl ?_
  refine wpo_len (by kernel_rfl) rfl rfl ?_
  refine wpo_lss (q := decide ((k : Int) < (ms.length : Int))) rfl rfl rfl rfl ?_
  refine wpo_nil ?_
  refine wpf_cond rfl (fun h113 => ?_) (fun h113 => ?_)
  ·
   have h114 := of_decide_eq_true h113
   refine wpf_skip ?_
   refine thn_n ?_
   refine wpf_seq ?_
   refine wpf_block ?_
   refine wpf_seq ?_
   obtain ⟨b159, q160, o161, ha162, ho163, hr164⟩ := SlAt.at (TabAt.low ht hb108).1 (map_get (mAt_get (show k < ms.length by omega)))
   have hle165 := TabLen.at hlen (mAt_get (show k < ms.length by omega))
   obtain ⟨b168, q169, o170, ha171, ho172, hr173⟩ := SlAt.at (TabAt.low hp hb108).1 (map_get (mAt_get (show k < ps.length by omega)))
   have hle174 := TabLen.at hlep (mAt_get (show k < ps.length by omega))
   refine wpf_draw (m := 8) (vals := [(17, .slice a ms.length c), (18, .int .i64 (k : Int)), (19, .pointer (some ⟨b159, o161, none⟩)), (20, .agg #[.int .i64 ((mAt ms k).t.kind), .int .i64 ((mAt ms k).t.lab.s), .int .i64 ((mAt ms k).t.lab.v), .int .i64 ((mAt ms k).t.ve), .int .i64 ((mAt ms k).t.num), .slice ((mAt ms k).sa) ((mAt ms k).t.slots.length) ((mAt ms k).sc), .slice ((mAt ms k).qa) ((mAt ms k).t.queue.length) ((mAt ms k).qc), .int .i64 ((mAt ms k).t.to)]), (21, .slice b ps.length e), (22, .int .i64 (k : Int)), (23, .pointer (some ⟨b168, o170, none⟩)), (24, .agg #[.int .i64 ((mAt ps k).t.kind), .int .i64 ((mAt ps k).t.lab.s), .int .i64 ((mAt ps k).t.lab.v), .int .i64 ((mAt ps k).t.ve), .int .i64 ((mAt ps k).t.num), .slice ((mAt ps k).sa) ((mAt ps k).t.slots.length) ((mAt ps k).sc), .slice ((mAt ps k).qa) ((mAt ps k).t.queue.length) ((mAt ps k).qc), .int .i64 ((mAt ps k).t.to)])]) (fun w' => w107.grownBy w' none) mixed_ (by kernel_rfl) (grown_drew _) ?_ ?_
   ·
    refine yll_cons rfl (fun w178 hi179 => ?_) ?_
    ·
     have hb180 := low0 hb108 hi179
     refine wpo_move (v := .slice a ms.length c) e111 rfl ?_
     exact wpo_nil ⟨rfl, hi179⟩
    refine yll_cons rfl (fun w181 hi182 => ?_) ?_
    ·
     have hb183 := low0 hb108 hi182
     refine wpo_move (v := .int .i64 (k : Int)) e110 rfl ?_
     exact wpo_nil ⟨rfl, hi182⟩
    refine yll_cons rfl (fun w184 hi185 => ?_) ?_
    ·
     have hb186 := low0 hb108 hi185
     refine wpo_indexE es_23 rfl rfl ha162 ho163 (by omega) (by omega) rfl ?_
     exact wpo_nil ⟨rfl, hi185⟩
    refine yll_cons rfl (fun w187 hi188 => ?_) ?_
    ·
     have hb189 := low0 hb108 hi188
     refine wpo_loadn (vs := [.int .i64 ((mAt ms k).t.kind), .int .i64 ((mAt ms k).t.lab.s), .int .i64 ((mAt ms k).t.lab.v), .int .i64 ((mAt ms k).t.ve), .int .i64 ((mAt ms k).t.num), .slice ((mAt ms k).sa) ((mAt ms k).t.slots.length) ((mAt ms k).sc), .slice ((mAt ms k).qa) ((mAt ms k).t.queue.length) ((mAt ms k).qc), .int .i64 ((mAt ms k).t.to)]) rt_35 rfl rfl (range_sub (range_low hr164 hi188) 0 8 rfl) rfl ?_
     exact wpo_nil ⟨rfl, hi188⟩
    refine yll_cons rfl (fun w190 hi191 => ?_) ?_
    ·
     have hb192 := low0 hb108 hi191
     refine wpo_move (v := .slice b ps.length e) e112 rfl ?_
     exact wpo_nil ⟨rfl, hi191⟩
    refine yll_cons rfl (fun w193 hi194 => ?_) ?_
    ·
     have hb195 := low0 hb108 hi194
     refine wpo_move (v := .int .i64 (k : Int)) e110 rfl ?_
     exact wpo_nil ⟨rfl, hi194⟩
    refine yll_cons rfl (fun w196 hi197 => ?_) ?_
    ·
     have hb198 := low0 hb108 hi197
     refine wpo_indexE es_23 rfl rfl ha171 ho172 (by omega) (by omega) rfl ?_
     exact wpo_nil ⟨rfl, hi197⟩
    refine yll_cons rfl (fun w199 hi200 => ?_) ?_
    ·
     have hb201 := low0 hb108 hi200
     refine wpo_loadn (vs := [.int .i64 ((mAt ps k).t.kind), .int .i64 ((mAt ps k).t.lab.s), .int .i64 ((mAt ps k).t.lab.v), .int .i64 ((mAt ps k).t.ve), .int .i64 ((mAt ps k).t.num), .slice ((mAt ps k).sa) ((mAt ps k).t.slots.length) ((mAt ps k).sc), .slice ((mAt ps k).qa) ((mAt ps k).t.queue.length) ((mAt ps k).qc), .int .i64 ((mAt ps k).t.to)]) rt_35 rfl rfl (range_sub (range_low hr173 hi200) 0 8 rfl) rfl ?_
     exact wpo_nil ⟨rfl, hi200⟩
    exact yll_nil
   ·
    intro w202 hi203
    have hb204 := low0 hb108 hi203
    refine wpo_call (vs := [.agg #[.int .i64 ((mAt ms k).t.kind), .int .i64 ((mAt ms k).t.lab.s), .int .i64 ((mAt ms k).t.lab.v), .int .i64 ((mAt ms k).t.ve), .int .i64 ((mAt ms k).t.num), .slice ((mAt ms k).sa) ((mAt ms k).t.slots.length) ((mAt ms k).sc), .slice ((mAt ms k).qa) ((mAt ms k).t.queue.length) ((mAt ms k).qc), .int .i64 ((mAt ms k).t.to)], .agg #[.int .i64 ((mAt ps k).t.kind), .int .i64 ((mAt ps k).t.lab.s), .int .i64 ((mAt ps k).t.lab.v), .int .i64 ((mAt ps k).t.ve), .int .i64 ((mAt ps k).t.num), .slice ((mAt ps k).sa) ((mAt ps k).t.slots.length) ((mAt ps k).sc), .slice ((mAt ps k).qa) ((mAt ps k).t.queue.length) ((mAt ps k).qc), .int .i64 ((mAt ps k).t.to)]]) gf_65 (args_cons rfl (args_cons rfl args_nil)) rfl (eqThing_c (mAt ms k) (mAt ps k) _ (TabAt.th (TabAt.low ht hb204) (mAt_get (show k < ms.length by omega))) (TabAt.th (TabAt.low hp hb204) (mAt_get (show k < ps.length by omega))) ⟨by first | omega | exact Nat.le_of_ble_eq_true rfl | (simp only [List.length_nil, List.length_cons, List.length_append, List.length_replicate]; omega), by first | omega | exact Nat.le_of_ble_eq_true rfl | (simp only [List.length_nil, List.length_cons, List.length_append, List.length_replicate]; omega)⟩ ⟨by first | omega | exact Nat.le_of_ble_eq_true rfl | (simp only [List.length_nil, List.length_cons, List.length_append, List.length_replicate]; omega), by first | omega | exact Nat.le_of_ble_eq_true rfl | (simp only [List.length_nil, List.length_cons, List.length_append, List.length_replicate]; omega)⟩) ?_
    rintro _ w205 ⟨rfl, hg206⟩
    have hb207 := low0 hb204 hg206
    refine wpo_not (b' := !(decide ((mAt ms k).t = (mAt ps k).t))) rfl rfl rfl ?_
    refine wpo_nil ?_
    refine thn_n ?_
    refine wpf_cond rfl (fun h208 => ?_) (fun h208 => ?_)
    ·
     have h209 := nt_t h208
     have h210 := of_decide_eq_false h209
     refine wpf_seq_region ?_
     refine wpo_assign (v := .bool false) rfl rfl ?_
     refine wpo_nil ?_
     refine wpf_ret ?_
     refine blk_r ?_
     refine thn_r ?_
     refine thn_r ?_
     refine blk_r ?_
     refine thn_r ?_
     refine ⟨.bool false, res1 rfl rfl, ?_, hb207⟩
     exact congrArg Value.bool (decide_eq_false (ne_of_at (tab_at (by omega)) (tab_at (by omega)) (of_decide_eq_false h209))).symm
    ·
     have h211 := nt_f h208
     have h212 := of_decide_eq_true h211
     refine wpf_skip ?_
     refine blk_n ?_
     refine thn_n ?_
     refine wpf_region ?_
     refine wpo_move (v := .int .i64 (k : Int)) e110 rfl ?_
     refine wpo_add (c := (k : Int) + 1) rfl rfl (by omega) (by omega) (by omega) rfl ?_
     refine wpo_assign (v := .int .i64 ((k : Int) + 1)) rfl rfl ?_
     refine wpo_nil ?_
     refine thn_n ?_
     exact ⟨ms.length - (k + 1), by omega, (k + 1), rfl, (by omega), (take_eq_succ ha (tab_at (by omega)) (tab_at (by omega)) (of_decide_eq_true h211)), rfl, e111, e112, hb207⟩
  ·
   have h213 := of_decide_eq_false h113
   refine wpf_exit ?_
   refine thn_e ?_
   refine thn_e ?_
   refine blk_e ?_
   refine thn_n ?_
   refine wpf_seq_region ?_
   refine wpo_assign (v := .bool true) rfl rfl ?_
   refine wpo_nil ?_
   refine wpf_ret ?_
   refine ⟨.bool true, res1 rfl rfl, ?_, hb108⟩
   exact congrArg Value.bool (decide_eq_true (eq_of_take ha (by rw [tabT_len]; omega) (by rw [tabT_len]; omega))).symm
theorem thingExists_c [Comp] (k : Int) (w : World) (a : Option Addr) (n c : Nat) : CallsR Try.prog 56 #[.slice a n c, .int .i64 k] w (fun v w' => v = .bool (inR k 1 (n : Int)) ∧ w.grownBy w' none) := by
 refine calls_of_wpf (n := 9) Try.func56 rfl Try.ntmps56 rfl ?_
 have hb0 := World.grownBy.refl w none
 refine wpf_seq_region ?_
 refine wpo_assign (v := .bool false) rfl rfl ?_
 refine wpo_nil ?_
 refine wpf_seq_region ?_
 refine wpo_move (v := .int .i64 k) rfl rfl ?_
 refine wpo_move (v := .slice a n c) rfl rfl ?_
 refine wpo_len (by kernel_rfl) rfl rfl ?_
 refine wpo_call (vs := [.int .i64 k, .int .i64 1, .int .i64 (n : Int)]) gf_50 (args_cons rfl (args_cons rfl (args_cons rfl args_nil))) rfl (inRange_c k 1 (n : Int) _) ?_
 rintro _ w101 ⟨rfl, hg102⟩
 have hb103 := low0 hb0 hg102
 refine wpo_assign (v := .bool (inR k 1 (n : Int))) rfl rfl ?_
 refine wpo_nil ?_
 refine wpf_ret ?_
 refine ⟨.bool (inR k 1 (n : Int)), res1 rfl rfl, ?_, hb103⟩
 rfl
theorem kindAt_c [Comp] (k kd : Int) (hk : -9223372036854775807 ≤ k) (w : World) (ms : List MTh) (a : Option Addr) (c : Nat) (ht : TabAt w a ms) (hlen : TabLen ms) (hn : ms.length ≤ 1048576) : CallsR Try.prog 71 #[.slice a ms.length c, .int .i64 k, .int .i64 kd] w (fun v w' => v = .bool (kindAt (tabT ms) k kd) ∧ w.grownBy w' none) := by
 refine calls_of_wpf (n := 20) Try.func71 rfl Try.ntmps71 rfl ?_
 have hb0 := World.grownBy.refl w none
 refine wpf_seq_region ?_
 refine wpo_assign (v := .bool false) rfl rfl ?_
 refine wpo_nil ?_
 refine wpf_seq_region_mid (fun f' w' => (f' 6 = .bool (inR k 1 (ms.length : Int) && (decide ((mAt ms ((k - 1).toNat)).t.kind = kd)))) ∧ w.grownBy w' none) ?_ ?_
 ·
  refine wpo_move (v := .slice a ms.length c) rfl rfl ?_
  refine wpo_move (v := .int .i64 k) rfl rfl ?_
  refine wpo_call (vs := [.slice a ms.length c, .int .i64 k]) gf_56 (args_cons rfl (args_cons rfl args_nil)) rfl (thingExists_c k _ _ _ _) ?_
  rintro _ w116 ⟨rfl, hg117⟩
  have hb118 := low0 hb0 hg117
  refine wpo_move (v := .bool (inR k 1 (ms.length : Int))) rfl rfl ?_
  rcases bcases (inR k 1 (ms.length : Int)) with h119 | h119
  ·
   have hr120 := inR_iff.1 h119
   refine wpo_run rfl rfl rfl h119 ?_
   refine wpo_move (v := .slice a ms.length c) rfl rfl ?_
   refine wpo_run rfl rfl rfl h119 ?_
   refine wpo_move (v := .int .i64 k) rfl rfl ?_
   refine wpo_run rfl rfl rfl h119 ?_
   refine wpo_sub (c := k - 1) rfl rfl (by omega) (by omega) (by omega) rfl ?_
   refine wpo_run rfl rfl rfl h119 ?_
   obtain ⟨b123, q124, o125, ha126, ho127, hr128⟩ := SlAt.at (TabAt.low ht hb118).1 (map_get (mAt_get (show (k - 1).toNat < ms.length by omega)))
   have hle129 := TabLen.at hlen (mAt_get (show (k - 1).toNat < ms.length by omega))
   refine wpo_indexE es_23 rfl rfl ha126 ho127 (by omega) (by omega) rfl ?_
   refine wpo_run rfl rfl rfl h119 ?_
   refine wpo_fieldAddr (o' := o125) fo_35_0 rfl rfl rfl ?_
   refine wpo_run rfl rfl rfl h119 ?_
   refine wpo_load1 (v := .int .i64 ((mAt ms ((k - 1).toNat)).t.kind)) ot_3 rfl (hr128 0 _ rfl) rfl ?_
   refine wpo_run rfl rfl rfl h119 ?_
   refine wpo_move (v := .int .i64 kd) rfl rfl ?_
   refine wpo_run rfl rfl rfl h119 ?_
   refine wpo_eql (q := decide ((mAt ms ((k - 1).toNat)).t.kind = kd)) rfl rfl rfl rfl ?_
   refine wpo_pickt (v := .bool (decide ((mAt ms ((k - 1).toNat)).t.kind = kd))) rfl h119 rfl rfl ?_
   refine wpo_assign (v := .bool (decide ((mAt ms ((k - 1).toNat)).t.kind = kd))) rfl rfl ?_
   exact wpo_nil ⟨(congrArg Value.bool (by first | (simp only [h119, b0, b1, b2, b3, b4, b5, b6, b7, b8, b9]; done) | simp [h119])), hg117⟩
  ·
   iterate 8 refine wpo_pass rfl rfl rfl h119 rfl ?_
   refine wpo_pickf (v := .bool false) rfl h119 rfl rfl ?_
   refine wpo_assign (v := .bool false) rfl rfl ?_
   exact wpo_nil ⟨(congrArg Value.bool (by first | (simp only [h119, b0, b1, b2, b3, b4, b5, b6, b7, b8, b9]; done) | simp [h119])), hg117⟩
 ·
  rintro f130 w131 ⟨e132, hg133⟩
  have hb134 := low0 hb0 hg133
  refine wpf_ret ?_
  refine ⟨.bool (inR k 1 (ms.length : Int) && (decide ((mAt ms ((k - 1).toNat)).t.kind = kd))), res1 rfl e132, ?_, hb134⟩
  exact congrArg Value.bool kindAt_m
theorem sTableOk_c [Comp] (w : World) (ms : List MTh) (a : Option Addr) (c : Nat) (ht : TabAt w a ms) (hlen : TabLen ms) (hn : ms.length ≤ 1048576) : CallsR Try.prog 15 #[.slice a ms.length c] w (fun v w' => v = .bool (tableOk (tabT ms)) ∧ w.grownBy w' none) := by
 refine calls_of_wpf (n := 92) Try.func15 rfl Try.ntmps15 rfl ?_
 have hb0 := World.grownBy.refl w none
 refine wpf_seq_region ?_
 refine wpo_assign (v := .bool false) rfl rfl ?_
 refine wpo_nil ?_
 refine wpf_seq ?_
 refine wpf_seq_region ?_
 refine wpo_assign (v := .int .i64 0) rfl rfl ?_
 refine wpo_nil ?_
 refine wpf_block ?_
 refine wpf_loopN (fun mm f' w' => ∃ (k : Nat), mm = ms.length - k ∧ k ≤ ms.length ∧ (((tabT ms).take k).all (rowOk (tabT ms))) = true ∧ f' 3 = .int .i64 (k : Int) ∧ f' 0 = .slice a ms.length c ∧ w.grownBy w' none) (ms.length - 0) ⟨0, rfl, (Nat.zero_le _), rfl, rfl, rfl, hb0⟩ ?_
 rintro mm f101 w102 ⟨k, hm104, hk, hall, e105, e106, hb103⟩
 refine wpf_seq ?_
 refine wpf_seq_region ?_
 refine wpo_move (v := .int .i64 (k : Int)) e105 rfl ?_
 refine wpo_move (v := .slice a ms.length c) e106 rfl ?_
 refine wpo_len (by kernel_rfl) rfl rfl ?_
 refine wpo_lss (q := decide ((k : Int) < (ms.length : Int))) rfl rfl rfl rfl ?_
 refine wpo_nil ?_
 refine wpf_cond rfl (fun h107 => ?_) (fun h107 => ?_)
 ·
  have h108 := of_decide_eq_true h107
  refine wpf_skip ?_
  refine thn_n ?_
  refine wpf_seq ?_
  refine wpf_block ?_
  refine wpf_seq ?_
  refine wpf_seq_region_mid (fun f' w' => (f' 0 = .slice a ms.length c ∧ f' 3 = .int .i64 (k : Int) ∧ f' 48 = .bool ((!thingOk (mAt ms k).t) || ((decide ((mAt ms k).t.kind = 5)) && ((decide ((ms.length : Int) < (mAt ms k).t.to)) || (!(decide ((mAt ms ((((mAt ms k).t.to) - 1).toNat)).t.kind = 1))))))) ∧ w102.grownBy w' none) ?_ ?_
  ·
   refine wpo_move (v := .slice a ms.length c) e106 rfl ?_
   refine wpo_move (v := .int .i64 (k : Int)) e105 rfl ?_
   obtain ⟨b144, q145, o146, ha147, ho148, hr149⟩ := SlAt.at (TabAt.low ht hb103).1 (map_get (mAt_get (show k < ms.length by omega)))
   have hle150 := TabLen.at hlen (mAt_get (show k < ms.length by omega))
   refine wpo_indexE es_23 rfl rfl ha147 ho148 (by omega) (by omega) rfl ?_
   refine wpo_loadn (vs := [.int .i64 ((mAt ms k).t.kind), .int .i64 ((mAt ms k).t.lab.s), .int .i64 ((mAt ms k).t.lab.v), .int .i64 ((mAt ms k).t.ve), .int .i64 ((mAt ms k).t.num), .slice ((mAt ms k).sa) ((mAt ms k).t.slots.length) ((mAt ms k).sc), .slice ((mAt ms k).qa) ((mAt ms k).t.queue.length) ((mAt ms k).qc), .int .i64 ((mAt ms k).t.to)]) rt_35 rfl rfl (range_sub hr149 0 8 rfl) rfl ?_
   refine wpo_call (vs := [.agg #[.int .i64 ((mAt ms k).t.kind), .int .i64 ((mAt ms k).t.lab.s), .int .i64 ((mAt ms k).t.lab.v), .int .i64 ((mAt ms k).t.ve), .int .i64 ((mAt ms k).t.num), .slice ((mAt ms k).sa) ((mAt ms k).t.slots.length) ((mAt ms k).sc), .slice ((mAt ms k).qa) ((mAt ms k).t.queue.length) ((mAt ms k).qc), .int .i64 ((mAt ms k).t.to)]]) gf_45 (args_cons rfl args_nil) rfl (sThingOk_c (mAt ms k) _ (TabAt.th (TabAt.low ht hb103) (mAt_get (show k < ms.length by omega))).1 (TabAt.th (TabAt.low ht hb103) (mAt_get (show k < ms.length by omega))).2.1 (by first | omega | exact Nat.le_of_ble_eq_true rfl | (simp only [List.length_nil, List.length_cons, List.length_append, List.length_replicate]; omega)) (by first | omega | exact Nat.le_of_ble_eq_true rfl | (simp only [List.length_nil, List.length_cons, List.length_append, List.length_replicate]; omega))) ?_
   rintro _ w151 ⟨rfl, hg152⟩
   have hb153 := low0 hb103 hg152
   refine wpo_not (b' := !thingOk (mAt ms k).t) rfl rfl rfl ?_
   refine wpo_move (v := .bool (!thingOk (mAt ms k).t)) rfl rfl ?_
   rcases bcases (!thingOk (mAt ms k).t) with h154 | h154
   ·
    have h155 := nt_t h154
    iterate 7 refine wpo_pass rfl rfl rfl h154 rfl ?_
    iterate 21 refine wpo_passu rfl rfl rfl rfl ?_
    refine wpo_pass rfl rfl rfl h154 rfl ?_
    refine wpo_pickt (v := .bool true) rfl h154 rfl rfl ?_
    exact wpo_nil ⟨⟨e106, e105, (congrArg Value.bool (by first | (simp only [h107, h154, h155, b0, b1, b2, b3, b4, b5, b6, b7, b8, b9]; done) | simp [h107, h154, h155]))⟩, hg152⟩
   ·
    have h156 := nt_f h154
    refine wpo_run rfl rfl rfl h154 ?_
    refine wpo_move (v := .slice a ms.length c) e106 rfl ?_
    refine wpo_run rfl rfl rfl h154 ?_
    refine wpo_move (v := .int .i64 (k : Int)) e105 rfl ?_
    refine wpo_run rfl rfl rfl h154 ?_
    refine wpo_indexE es_23 rfl rfl ha147 ho148 (by omega) (by omega) rfl ?_
    refine wpo_run rfl rfl rfl h154 ?_
    refine wpo_fieldAddr (o' := o146) fo_35_0 rfl rfl rfl ?_
    refine wpo_run rfl rfl rfl h154 ?_
    refine wpo_load1 (v := .int .i64 ((mAt ms k).t.kind)) ot_3 rfl ((range_low hr149 hg152) 0 _ rfl) rfl ?_
    refine wpo_run rfl rfl rfl h154 ?_
    refine wpo_eql (q := decide ((mAt ms k).t.kind = 5)) rfl rfl rfl rfl ?_
    refine wpo_run rfl rfl rfl h154 ?_
    refine wpo_move (v := .bool (decide ((mAt ms k).t.kind = 5))) rfl rfl ?_
    rcases bcases (decide ((mAt ms k).t.kind = 5)) with h157 | h157
    ·
     have hgt158 := th_gate h156 h157
     have h159 := of_decide_eq_true h157
     refine wpo_run rfl rfl rfl h157 ?_
     refine wpo_move (v := .slice a ms.length c) e106 rfl ?_
     refine wpo_run rfl rfl rfl h157 ?_
     refine wpo_move (v := .int .i64 (k : Int)) e105 rfl ?_
     refine wpo_run rfl rfl rfl h157 ?_
     refine wpo_indexE es_23 rfl rfl ha147 ho148 (by omega) (by omega) rfl ?_
     refine wpo_run rfl rfl rfl h157 ?_
     refine wpo_fieldAddr (o' := o146 + 7) fo_35_6 rfl rfl rfl ?_
     refine wpo_run rfl rfl rfl h157 ?_
     refine wpo_load1 (v := .int .i64 ((mAt ms k).t.to)) ot_3 rfl ((range_low hr149 hg152) 7 _ rfl) rfl ?_
     refine wpo_run rfl rfl rfl h157 ?_
     refine wpo_move (v := .slice a ms.length c) e106 rfl ?_
     refine wpo_run rfl rfl rfl h157 ?_
     refine wpo_len (by kernel_rfl) rfl rfl ?_
     refine wpo_run rfl rfl rfl h157 ?_
     refine wpo_gtr (q := decide ((ms.length : Int) < (mAt ms k).t.to)) rfl rfl rfl rfl ?_
     refine wpo_run rfl rfl rfl h157 ?_
     refine wpo_move (v := .bool (decide ((ms.length : Int) < (mAt ms k).t.to))) rfl rfl ?_
     rcases bcases (decide ((ms.length : Int) < (mAt ms k).t.to)) with h160 | h160
     ·
      have h161 := of_decide_eq_true h160
      iterate 11 refine wpo_pass rfl rfl rfl h160 rfl ?_
      refine wpo_run rfl rfl rfl h157 ?_
      refine wpo_pickt (v := .bool true) rfl h160 rfl rfl ?_
      refine wpo_run rfl rfl rfl h154 ?_
      refine wpo_pickt (v := .bool true) rfl h157 rfl rfl ?_
      refine wpo_pickf (v := .bool true) rfl h154 rfl rfl ?_
      exact wpo_nil ⟨⟨e106, e105, (congrArg Value.bool (by first | (simp only [h107, h154, h156, h157, h160, b0, b1, b2, b3, b4, b5, b6, b7, b8, b9]; done) | simp [h107, h154, h156, h157, h160]))⟩, hg152⟩
     ·
      have h162 := of_decide_eq_false h160
      refine wpo_run rfl rfl rfl h160 ?_
      refine wpo_move (v := .slice a ms.length c) e106 rfl ?_
      refine wpo_run rfl rfl rfl h160 ?_
      refine wpo_move (v := .slice a ms.length c) e106 rfl ?_
      refine wpo_run rfl rfl rfl h160 ?_
      refine wpo_move (v := .int .i64 (k : Int)) e105 rfl ?_
      refine wpo_run rfl rfl rfl h160 ?_
      refine wpo_indexE es_23 rfl rfl ha147 ho148 (by omega) (by omega) rfl ?_
      refine wpo_run rfl rfl rfl h160 ?_
      refine wpo_fieldAddr (o' := o146 + 7) fo_35_6 rfl rfl rfl ?_
      refine wpo_run rfl rfl rfl h160 ?_
      refine wpo_load1 (v := .int .i64 ((mAt ms k).t.to)) ot_3 rfl ((range_low hr149 hg152) 7 _ rfl) rfl ?_
      refine wpo_run rfl rfl rfl h160 ?_
      refine wpo_sub (c := ((mAt ms k).t.to) - 1) rfl rfl (by omega) (by omega) (by omega) rfl ?_
      refine wpo_run rfl rfl rfl h160 ?_
      obtain ⟨b165, q166, o167, ha168, ho169, hr170⟩ := SlAt.at (TabAt.low ht hb153).1 (map_get (mAt_get (show (((mAt ms k).t.to) - 1).toNat < ms.length by omega)))
      have hle171 := TabLen.at hlen (mAt_get (show (((mAt ms k).t.to) - 1).toNat < ms.length by omega))
      refine wpo_indexE es_23 rfl rfl ha168 ho169 (by omega) (by omega) rfl ?_
      refine wpo_run rfl rfl rfl h160 ?_
      refine wpo_fieldAddr (o' := o167) fo_35_0 rfl rfl rfl ?_
      refine wpo_run rfl rfl rfl h160 ?_
      refine wpo_load1 (v := .int .i64 ((mAt ms ((((mAt ms k).t.to) - 1).toNat)).t.kind)) ot_3 rfl (hr170 0 _ rfl) rfl ?_
      refine wpo_run rfl rfl rfl h160 ?_
      refine wpo_neq (q := !(decide ((mAt ms ((((mAt ms k).t.to) - 1).toNat)).t.kind = 1))) rfl rfl rfl rfl ?_
      refine wpo_run rfl rfl rfl h157 ?_
      refine wpo_pickf (v := .bool (!(decide ((mAt ms ((((mAt ms k).t.to) - 1).toNat)).t.kind = 1)))) rfl h160 rfl rfl ?_
      refine wpo_run rfl rfl rfl h154 ?_
      refine wpo_pickt (v := .bool (!(decide ((mAt ms ((((mAt ms k).t.to) - 1).toNat)).t.kind = 1)))) rfl h157 rfl rfl ?_
      refine wpo_pickf (v := .bool (!(decide ((mAt ms ((((mAt ms k).t.to) - 1).toNat)).t.kind = 1)))) rfl h154 rfl rfl ?_
      exact wpo_nil ⟨⟨e106, e105, (congrArg Value.bool (by first | (simp only [h107, h154, h156, h157, h160, b0, b1, b2, b3, b4, b5, b6, b7, b8, b9]; done) | simp [h107, h154, h156, h157, h160]))⟩, hg152⟩
    ·
     have h172 := of_decide_eq_false h157
     iterate 9 refine wpo_pass rfl rfl rfl h157 rfl ?_
     iterate 11 refine wpo_passu rfl rfl rfl rfl ?_
     refine wpo_pass rfl rfl rfl h157 rfl ?_
     refine wpo_run rfl rfl rfl h154 ?_
     refine wpo_pickf (v := .bool false) rfl h157 rfl rfl ?_
     refine wpo_pickf (v := .bool false) rfl h154 rfl rfl ?_
     exact wpo_nil ⟨⟨e106, e105, (congrArg Value.bool (by first | (simp only [h107, h154, h156, h157, b0, b1, b2, b3, b4, b5, b6, b7, b8, b9]; done) | simp [h107, h154, h156, h157]))⟩, hg152⟩
  ·
   rintro f173 w174 ⟨⟨e175, e176, e177⟩, hg178⟩
   have hb179 := low0 hb103 hg178
   refine wpf_cond e177 (fun h180 => ?_) (fun h180 => ?_)
   ·
    refine wpf_seq_region ?_
    refine wpo_assign (v := .bool false) rfl rfl ?_
    refine wpo_nil ?_
    refine wpf_ret ?_
    refine thn_r ?_
    refine blk_r ?_
    refine thn_r ?_
    refine thn_r ?_
    refine blk_r ?_
    refine thn_r ?_
    refine ⟨.bool false, res1 rfl rfl, ?_, hb179⟩
    exact congrArg Value.bool (tab_no (by omega) ((row_head rfl).1 h180))
   ·
    have h181 := or_l h180
    have h182 := nt_f h181
    have h183 := or_r h180
    refine wpf_skip ?_
    refine thn_n ?_
    refine wpf_seq_region ?_
    refine wpo_assign (v := .int .i64 0) rfl rfl ?_
    refine wpo_nil ?_
    refine wpf_block ?_
    refine wpf_loopN (fun mm f' w' => ∃ (j : Nat), mm = (mAt ms k).t.slots.length - j ∧ j ≤ (mAt ms k).t.slots.length ∧ (((mAt ms k).t.slots.take j).all (rightTo (tabT ms))) = true ∧ f' 4 = .int .i64 (j : Int) ∧ f' 0 = .slice a ms.length c ∧ f' 3 = .int .i64 (k : Int) ∧ w.grownBy w' none) ((mAt ms k).t.slots.length - 0) ⟨0, rfl, (Nat.zero_le _), rfl, rfl, e175, e176, hb179⟩ ?_
    rintro mm f184 w185 ⟨j, hm187, hj, hrs, e188, e189, e190, hb186⟩
    have hR0 : ∀ j, j < (mAt ms k).t.slots.length → 0 ≤ (rAt (mAt ms k).t.slots j).th ∧ (rAt (mAt ms k).t.slots j).th ≤ 8 := fun j hj => th_right ((row_head rfl).2 h180).1 (rAt_get hj)
    refine wpf_seq ?_
    refine wpf_seq_region ?_
    refine wpo_move (v := .int .i64 (j : Int)) e188 rfl ?_
    refine wpo_move (v := .slice a ms.length c) e189 rfl ?_
    refine wpo_move (v := .int .i64 (k : Int)) e190 rfl ?_
    obtain ⟨b193, q194, o195, ha196, ho197, hr198⟩ := SlAt.at (TabAt.low ht hb186).1 (map_get (mAt_get (show k < ms.length by omega)))
    have hle199 := TabLen.at hlen (mAt_get (show k < ms.length by omega))
    refine wpo_indexE es_23 rfl rfl ha196 ho197 (by omega) (by omega) rfl ?_
    refine wpo_fieldAddr (o' := o195 + 5) fo_35_4 rfl rfl rfl ?_
    refine wpo_load1 (v := .slice ((mAt ms k).sa) ((mAt ms k).t.slots.length) ((mAt ms k).sc)) ot_32 rfl (hr198 5 _ rfl) rfl ?_
    refine wpo_len (by kernel_rfl) rfl rfl ?_
    refine wpo_lss (q := decide ((j : Int) < ((mAt ms k).t.slots.length : Int))) rfl rfl rfl rfl ?_
    refine wpo_nil ?_
    refine wpf_cond rfl (fun h200 => ?_) (fun h200 => ?_)
    ·
     have h201 := of_decide_eq_true h200
     refine wpf_skip ?_
     refine thn_n ?_
     refine wpf_seq ?_
     refine wpf_block ?_
     refine wpf_seq_region ?_
     refine wpo_move (v := .slice a ms.length c) e189 rfl ?_
     refine wpo_move (v := .int .i64 (k : Int)) e190 rfl ?_
     refine wpo_indexE es_23 rfl rfl ha196 ho197 (by omega) (by omega) rfl ?_
     refine wpo_fieldAddr (o' := o195 + 5) fo_35_4 rfl rfl rfl ?_
     refine wpo_load1 (v := .slice ((mAt ms k).sa) ((mAt ms k).t.slots.length) ((mAt ms k).sc)) ot_32 rfl (hr198 5 _ rfl) rfl ?_
     refine wpo_move (v := .int .i64 (j : Int)) e188 rfl ?_
     obtain ⟨b204, q205, o206, ha207, ho208, hr209⟩ := SlAt.at (TabAt.th (TabAt.low ht hb186) (mAt_get (show k < ms.length by omega))).1 (map_get (rAt_get (show j < (mAt ms k).t.slots.length by omega)))
     refine wpo_indexE es_32 rfl rfl ha207 ho208 (by omega) (by omega) rfl ?_
     refine wpo_loadn (vs := [.int .i64 ((rAt (mAt ms k).t.slots j).th), .int .i64 ((rAt (mAt ms k).t.slots j).ve), .bool ((rAt (mAt ms k).t.slots j).rd), .bool ((rAt (mAt ms k).t.slots j).wr), .bool ((rAt (mAt ms k).t.slots j).wk)]) rt_74 rfl rfl (range_sub hr209 0 5 rfl) rfl ?_
     refine wpo_alloc (cs := #[.int .i64 0, .int .i64 0, .bool false, .bool false, .bool false]) zt_74 rfl rfl ?_
     intro B210 w211 hN212
     have hlB210 := hN_ge hN212 hb186
     have hb213 := low0 hb186 hN212.grw
     refine wpo_storen (vs := [.int .i64 ((rAt (mAt ms k).t.slots j).th), .int .i64 ((rAt (mAt ms k).t.slots j).ve), .bool ((rAt (mAt ms k).t.slots j).rd), .bool ((rAt (mAt ms k).t.slots j).wr), .bool ((rAt (mAt ms k).t.slots j).wk)]) (cs' := #[.int .i64 ((rAt (mAt ms k).t.slots j).th), .int .i64 ((rAt (mAt ms k).t.slots j).ve), .bool ((rAt (mAt ms k).t.slots j).rd), .bool ((rAt (mAt ms k).t.slots j).wr), .bool ((rAt (mAt ms k).t.slots j).wk)]) rt_74 rfl rfl rfl (by simp [Value.oneCell']) hN212.blk (Nat.le_of_ble_eq_true rfl) rfl ?_
     intro w214 hS215
     have hb216 := low1 hb213 hS215.grw (by omega)
     refine wpo_nil ?_
     refine wpf_seq_mid (fun f' w' => (f' 0 = .slice a ms.length c ∧ f' 3 = .int .i64 (k : Int) ∧ f' 4 = .int .i64 (j : Int) ∧ f' 88 = .bool ((decide ((ms.length : Int) < (rAt (mAt ms k).t.slots j).th)) || ((decide (0 < (rAt (mAt ms k).t.slots j).th)) && (decide ((mAt ms ((((rAt (mAt ms k).t.slots j).th) - 1).toNat)).t.ve < (rAt (mAt ms k).t.slots j).ve))))) ∧ w214.grownBy w' none) ?_ ?_
     ·
      rcases bcases (decide ((ms.length : Int) < (rAt (mAt ms k).t.slots j).th)) with h226 | h226
      ·
       have h227 := of_decide_eq_true h226
       refine wpf_draw (m := 19) (vals := [(67, .pointer (some ⟨B210, 0, none⟩)), (68, .int .i64 ((rAt (mAt ms k).t.slots j).th)), (69, .slice a ms.length c), (70, .int .i64 (ms.length : Int)), (71, .bool (decide ((ms.length : Int) < (rAt (mAt ms k).t.slots j).th))), (72, .bool (decide ((ms.length : Int) < (rAt (mAt ms k).t.slots j).th))), (73, undef), (74, undef), (75, undef), (76, undef), (77, undef), (78, undef), (79, undef), (80, undef), (81, undef), (82, undef), (83, undef), (84, undef), (85, undef)]) (fun w' => w214.grownBy w' none) mixed_ (by kernel_rfl) (grown_drew _) ?_ ?_
       ·
        refine yll_cons rfl (fun w228 hi229 => ?_) ?_
        ·
         have hb230 := low0 hb216 hi229
         refine wpo_fieldAddr (o' := 0) fo_74_0 rfl rfl rfl ?_
         exact wpo_nil ⟨rfl, hi229⟩
        refine yll_cons rfl (fun w231 hi232 => ?_) ?_
        ·
         have hb233 := low0 hb216 hi232
         have k234 := (hS215.blk.grown0 hi232)
         refine wpo_load1 (v := .int .i64 ((rAt (mAt ms k).t.slots j).th)) ot_3 rfl (k234.cell rfl) rfl ?_
         exact wpo_nil ⟨rfl, hi232⟩
        refine yll_cons rfl (fun w235 hi236 => ?_) ?_
        ·
         have hb237 := low0 hb216 hi236
         refine wpo_move (v := .slice a ms.length c) e189 rfl ?_
         exact wpo_nil ⟨rfl, hi236⟩
        refine yll_cons rfl (fun w238 hi239 => ?_) ?_
        ·
         have hb240 := low0 hb216 hi239
         refine wpo_len (by kernel_rfl) rfl rfl ?_
         exact wpo_nil ⟨rfl, hi239⟩
        refine yll_cons rfl (fun w241 hi242 => ?_) ?_
        ·
         have hb243 := low0 hb216 hi242
         refine wpo_gtr (q := decide ((ms.length : Int) < (rAt (mAt ms k).t.slots j).th)) rfl rfl rfl rfl ?_
         exact wpo_nil ⟨rfl, hi242⟩
        refine yll_cons rfl (fun w244 hi245 => ?_) ?_
        ·
         have hb246 := low0 hb216 hi245
         refine wpo_move (v := .bool (decide ((ms.length : Int) < (rAt (mAt ms k).t.slots j).th))) rfl rfl ?_
         exact wpo_nil ⟨rfl, hi245⟩
        refine yll_cons rfl (fun w247 hi248 => ?_) ?_
        ·
         have hb249 := low0 hb216 hi248
         refine wpo_pass rfl rfl rfl h226 rfl ?_
         exact wpo_nil ⟨rfl, hi248⟩
        refine yll_cons rfl (fun w250 hi251 => ?_) ?_
        ·
         have hb252 := low0 hb216 hi251
         refine wpo_pass rfl rfl rfl h226 rfl ?_
         exact wpo_nil ⟨rfl, hi251⟩
        refine yll_cons rfl (fun w253 hi254 => ?_) ?_
        ·
         have hb255 := low0 hb216 hi254
         refine wpo_pass rfl rfl rfl h226 rfl ?_
         exact wpo_nil ⟨rfl, hi254⟩
        refine yll_cons rfl (fun w256 hi257 => ?_) ?_
        ·
         have hb258 := low0 hb216 hi257
         refine wpo_pass rfl rfl rfl h226 rfl ?_
         exact wpo_nil ⟨rfl, hi257⟩
        refine yll_cons rfl (fun w259 hi260 => ?_) ?_
        ·
         have hb261 := low0 hb216 hi260
         refine wpo_passu rfl rfl rfl rfl ?_
         exact wpo_nil ⟨rfl, hi260⟩
        refine yll_cons rfl (fun w262 hi263 => ?_) ?_
        ·
         have hb264 := low0 hb216 hi263
         refine wpo_passu rfl rfl rfl rfl ?_
         exact wpo_nil ⟨rfl, hi263⟩
        refine yll_cons rfl (fun w265 hi266 => ?_) ?_
        ·
         have hb267 := low0 hb216 hi266
         refine wpo_passu rfl rfl rfl rfl ?_
         exact wpo_nil ⟨rfl, hi266⟩
        refine yll_cons rfl (fun w268 hi269 => ?_) ?_
        ·
         have hb270 := low0 hb216 hi269
         refine wpo_passu rfl rfl rfl rfl ?_
         exact wpo_nil ⟨rfl, hi269⟩
        refine yll_cons rfl (fun w271 hi272 => ?_) ?_
        ·
         have hb273 := low0 hb216 hi272
         refine wpo_passu rfl rfl rfl rfl ?_
         exact wpo_nil ⟨rfl, hi272⟩
        refine yll_cons rfl (fun w274 hi275 => ?_) ?_
        ·
         have hb276 := low0 hb216 hi275
         refine wpo_passu rfl rfl rfl rfl ?_
         exact wpo_nil ⟨rfl, hi275⟩
        refine yll_cons rfl (fun w277 hi278 => ?_) ?_
        ·
         have hb279 := low0 hb216 hi278
         refine wpo_passu rfl rfl rfl rfl ?_
         exact wpo_nil ⟨rfl, hi278⟩
        refine yll_cons rfl (fun w280 hi281 => ?_) ?_
        ·
         have hb282 := low0 hb216 hi281
         refine wpo_passu rfl rfl rfl rfl ?_
         exact wpo_nil ⟨rfl, hi281⟩
        refine yll_cons rfl (fun w283 hi284 => ?_) ?_
        ·
         have hb285 := low0 hb216 hi284
         refine wpo_passu rfl rfl rfl rfl ?_
         exact wpo_nil ⟨rfl, hi284⟩
        exact yll_nil
       ·
        intro w286 hi287
        have hb288 := low0 hb216 hi287
        refine wpo_passu rfl rfl rfl rfl ?_
        refine wpo_pass rfl rfl rfl h226 rfl ?_
        refine wpo_pickt (v := .bool true) rfl h226 rfl rfl ?_
        exact wpo_nil (thn_n ⟨⟨e189, e190, e188, (congrArg Value.bool (by first | (simp only [h107, h180, h181, h182, h183, h200, h226, b0, b1, b2, b3, b4, b5, b6, b7, b8, b9]; done) | simp [h107, h180, h181, h182, h183, h200, h226]))⟩, hi287⟩)
      ·
       have h289 := of_decide_eq_false h226
       rcases bcases (decide (0 < (rAt (mAt ms k).t.slots j).th)) with h290 | h290
       ·
        have h291 := of_decide_eq_true h290
        obtain ⟨b303, q304, o305, ha306, ho307, hr308⟩ := SlAt.at (TabAt.low ht hb216).1 (map_get (mAt_get (show (((rAt (mAt ms k).t.slots j).th) - 1).toNat < ms.length by omega)))
        have hle309 := TabLen.at hlen (mAt_get (show (((rAt (mAt ms k).t.slots j).th) - 1).toNat < ms.length by omega))
        refine wpf_draw (m := 19) (vals := [(67, .pointer (some ⟨B210, 0, none⟩)), (68, .int .i64 ((rAt (mAt ms k).t.slots j).th)), (69, .slice a ms.length c), (70, .int .i64 (ms.length : Int)), (71, .bool (decide ((ms.length : Int) < (rAt (mAt ms k).t.slots j).th))), (72, .bool (decide ((ms.length : Int) < (rAt (mAt ms k).t.slots j).th))), (73, .pointer (some ⟨B210, 0, none⟩)), (74, .int .i64 ((rAt (mAt ms k).t.slots j).th)), (75, .bool (decide (0 < (rAt (mAt ms k).t.slots j).th))), (76, .bool (decide (0 < (rAt (mAt ms k).t.slots j).th))), (77, .pointer (some ⟨B210, 1, none⟩)), (78, .int .i64 ((rAt (mAt ms k).t.slots j).ve)), (79, .slice a ms.length c), (80, .pointer (some ⟨B210, 0, none⟩)), (81, .int .i64 ((rAt (mAt ms k).t.slots j).th)), (82, .int .i64 (((rAt (mAt ms k).t.slots j).th) - 1)), (83, .pointer (some ⟨b303, o305, none⟩)), (84, .pointer (some ⟨b303, o305 + 3, none⟩)), (85, .int .i64 ((mAt ms ((((rAt (mAt ms k).t.slots j).th) - 1).toNat)).t.ve))]) (fun w' => w214.grownBy w' none) mixed_ (by kernel_rfl) (grown_drew _) ?_ ?_
        ·
         refine yll_cons rfl (fun w310 hi311 => ?_) ?_
         ·
          have hb312 := low0 hb216 hi311
          refine wpo_fieldAddr (o' := 0) fo_74_0 rfl rfl rfl ?_
          exact wpo_nil ⟨rfl, hi311⟩
         refine yll_cons rfl (fun w313 hi314 => ?_) ?_
         ·
          have hb315 := low0 hb216 hi314
          have k316 := (hS215.blk.grown0 hi314)
          refine wpo_load1 (v := .int .i64 ((rAt (mAt ms k).t.slots j).th)) ot_3 rfl (k316.cell rfl) rfl ?_
          exact wpo_nil ⟨rfl, hi314⟩
         refine yll_cons rfl (fun w317 hi318 => ?_) ?_
         ·
          have hb319 := low0 hb216 hi318
          refine wpo_move (v := .slice a ms.length c) e189 rfl ?_
          exact wpo_nil ⟨rfl, hi318⟩
         refine yll_cons rfl (fun w320 hi321 => ?_) ?_
         ·
          have hb322 := low0 hb216 hi321
          refine wpo_len (by kernel_rfl) rfl rfl ?_
          exact wpo_nil ⟨rfl, hi321⟩
         refine yll_cons rfl (fun w323 hi324 => ?_) ?_
         ·
          have hb325 := low0 hb216 hi324
          refine wpo_gtr (q := decide ((ms.length : Int) < (rAt (mAt ms k).t.slots j).th)) rfl rfl rfl rfl ?_
          exact wpo_nil ⟨rfl, hi324⟩
         refine yll_cons rfl (fun w326 hi327 => ?_) ?_
         ·
          have hb328 := low0 hb216 hi327
          refine wpo_move (v := .bool (decide ((ms.length : Int) < (rAt (mAt ms k).t.slots j).th))) rfl rfl ?_
          exact wpo_nil ⟨rfl, hi327⟩
         refine yll_cons rfl (fun w329 hi330 => ?_) ?_
         ·
          have hb331 := low0 hb216 hi330
          refine wpo_run rfl rfl rfl h226 ?_
          refine wpo_fieldAddr (o' := 0) fo_74_0 rfl rfl rfl ?_
          exact wpo_nil ⟨rfl, hi330⟩
         refine yll_cons rfl (fun w332 hi333 => ?_) ?_
         ·
          have hb334 := low0 hb216 hi333
          refine wpo_run rfl rfl rfl h226 ?_
          have k335 := (hS215.blk.grown0 hi333)
          refine wpo_load1 (v := .int .i64 ((rAt (mAt ms k).t.slots j).th)) ot_3 rfl (k335.cell rfl) rfl ?_
          exact wpo_nil ⟨rfl, hi333⟩
         refine yll_cons rfl (fun w336 hi337 => ?_) ?_
         ·
          have hb338 := low0 hb216 hi337
          refine wpo_run rfl rfl rfl h226 ?_
          refine wpo_gtr (q := decide (0 < (rAt (mAt ms k).t.slots j).th)) rfl rfl rfl rfl ?_
          exact wpo_nil ⟨rfl, hi337⟩
         refine yll_cons rfl (fun w339 hi340 => ?_) ?_
         ·
          have hb341 := low0 hb216 hi340
          refine wpo_run rfl rfl rfl h226 ?_
          refine wpo_move (v := .bool (decide (0 < (rAt (mAt ms k).t.slots j).th))) rfl rfl ?_
          exact wpo_nil ⟨rfl, hi340⟩
         refine yll_cons rfl (fun w342 hi343 => ?_) ?_
         ·
          have hb344 := low0 hb216 hi343
          refine wpo_run rfl rfl rfl h290 ?_
          refine wpo_fieldAddr (o' := 1) fo_74_1 rfl rfl rfl ?_
          exact wpo_nil ⟨rfl, hi343⟩
         refine yll_cons rfl (fun w345 hi346 => ?_) ?_
         ·
          have hb347 := low0 hb216 hi346
          refine wpo_run rfl rfl rfl h290 ?_
          have k348 := (hS215.blk.grown0 hi346)
          refine wpo_load1 (v := .int .i64 ((rAt (mAt ms k).t.slots j).ve)) ot_3 rfl (k348.cell rfl) rfl ?_
          exact wpo_nil ⟨rfl, hi346⟩
         refine yll_cons rfl (fun w349 hi350 => ?_) ?_
         ·
          have hb351 := low0 hb216 hi350
          refine wpo_run rfl rfl rfl h290 ?_
          refine wpo_move (v := .slice a ms.length c) e189 rfl ?_
          exact wpo_nil ⟨rfl, hi350⟩
         refine yll_cons rfl (fun w352 hi353 => ?_) ?_
         ·
          have hb354 := low0 hb216 hi353
          refine wpo_run rfl rfl rfl h290 ?_
          refine wpo_fieldAddr (o' := 0) fo_74_0 rfl rfl rfl ?_
          exact wpo_nil ⟨rfl, hi353⟩
         refine yll_cons rfl (fun w355 hi356 => ?_) ?_
         ·
          have hb357 := low0 hb216 hi356
          refine wpo_run rfl rfl rfl h290 ?_
          have k358 := (hS215.blk.grown0 hi356)
          refine wpo_load1 (v := .int .i64 ((rAt (mAt ms k).t.slots j).th)) ot_3 rfl (k358.cell rfl) rfl ?_
          exact wpo_nil ⟨rfl, hi356⟩
         refine yll_cons rfl (fun w359 hi360 => ?_) ?_
         ·
          have hb361 := low0 hb216 hi360
          refine wpo_run rfl rfl rfl h290 ?_
          refine wpo_sub (c := ((rAt (mAt ms k).t.slots j).th) - 1) rfl rfl (by omega) (by omega) (by omega) rfl ?_
          exact wpo_nil ⟨rfl, hi360⟩
         refine yll_cons rfl (fun w362 hi363 => ?_) ?_
         ·
          have hb364 := low0 hb216 hi363
          refine wpo_run rfl rfl rfl h290 ?_
          refine wpo_indexE es_23 rfl rfl ha306 ho307 (by omega) (by omega) rfl ?_
          exact wpo_nil ⟨rfl, hi363⟩
         refine yll_cons rfl (fun w365 hi366 => ?_) ?_
         ·
          have hb367 := low0 hb216 hi366
          refine wpo_run rfl rfl rfl h290 ?_
          refine wpo_fieldAddr (o' := o305 + 3) fo_35_2 rfl rfl rfl ?_
          exact wpo_nil ⟨rfl, hi366⟩
         refine yll_cons rfl (fun w368 hi369 => ?_) ?_
         ·
          have hb370 := low0 hb216 hi369
          refine wpo_run rfl rfl rfl h290 ?_
          refine wpo_load1 (v := .int .i64 ((mAt ms ((((rAt (mAt ms k).t.slots j).th) - 1).toNat)).t.ve)) ot_3 rfl ((range_low hr308 hi369) 3 _ rfl) rfl ?_
          exact wpo_nil ⟨rfl, hi369⟩
         exact yll_nil
        ·
         intro w371 hi372
         have hb373 := low0 hb216 hi372
         refine wpo_run rfl rfl rfl h290 ?_
         refine wpo_gtr (q := decide ((mAt ms ((((rAt (mAt ms k).t.slots j).th) - 1).toNat)).t.ve < (rAt (mAt ms k).t.slots j).ve)) rfl rfl rfl rfl ?_
         refine wpo_run rfl rfl rfl h226 ?_
         refine wpo_pickt (v := .bool (decide ((mAt ms ((((rAt (mAt ms k).t.slots j).th) - 1).toNat)).t.ve < (rAt (mAt ms k).t.slots j).ve))) rfl h290 rfl rfl ?_
         refine wpo_pickf (v := .bool (decide ((mAt ms ((((rAt (mAt ms k).t.slots j).th) - 1).toNat)).t.ve < (rAt (mAt ms k).t.slots j).ve))) rfl h226 rfl rfl ?_
         exact wpo_nil (thn_n ⟨⟨e189, e190, e188, (congrArg Value.bool (by first | (simp only [h107, h180, h181, h182, h183, h200, h226, h290, b0, b1, b2, b3, b4, b5, b6, b7, b8, b9]; done) | simp [h107, h180, h181, h182, h183, h200, h226, h290]))⟩, hi372⟩)
       ·
        have h374 := of_decide_eq_false h290
        refine wpf_draw (m := 19) (vals := [(67, .pointer (some ⟨B210, 0, none⟩)), (68, .int .i64 ((rAt (mAt ms k).t.slots j).th)), (69, .slice a ms.length c), (70, .int .i64 (ms.length : Int)), (71, .bool (decide ((ms.length : Int) < (rAt (mAt ms k).t.slots j).th))), (72, .bool (decide ((ms.length : Int) < (rAt (mAt ms k).t.slots j).th))), (73, .pointer (some ⟨B210, 0, none⟩)), (74, .int .i64 ((rAt (mAt ms k).t.slots j).th)), (75, .bool (decide (0 < (rAt (mAt ms k).t.slots j).th))), (76, .bool (decide (0 < (rAt (mAt ms k).t.slots j).th))), (77, undef), (78, undef), (79, undef), (80, undef), (81, undef), (82, undef), (83, undef), (84, undef), (85, undef)]) (fun w' => w214.grownBy w' none) mixed_ (by kernel_rfl) (grown_drew _) ?_ ?_
        ·
         refine yll_cons rfl (fun w375 hi376 => ?_) ?_
         ·
          have hb377 := low0 hb216 hi376
          refine wpo_fieldAddr (o' := 0) fo_74_0 rfl rfl rfl ?_
          exact wpo_nil ⟨rfl, hi376⟩
         refine yll_cons rfl (fun w378 hi379 => ?_) ?_
         ·
          have hb380 := low0 hb216 hi379
          have k381 := (hS215.blk.grown0 hi379)
          refine wpo_load1 (v := .int .i64 ((rAt (mAt ms k).t.slots j).th)) ot_3 rfl (k381.cell rfl) rfl ?_
          exact wpo_nil ⟨rfl, hi379⟩
         refine yll_cons rfl (fun w382 hi383 => ?_) ?_
         ·
          have hb384 := low0 hb216 hi383
          refine wpo_move (v := .slice a ms.length c) e189 rfl ?_
          exact wpo_nil ⟨rfl, hi383⟩
         refine yll_cons rfl (fun w385 hi386 => ?_) ?_
         ·
          have hb387 := low0 hb216 hi386
          refine wpo_len (by kernel_rfl) rfl rfl ?_
          exact wpo_nil ⟨rfl, hi386⟩
         refine yll_cons rfl (fun w388 hi389 => ?_) ?_
         ·
          have hb390 := low0 hb216 hi389
          refine wpo_gtr (q := decide ((ms.length : Int) < (rAt (mAt ms k).t.slots j).th)) rfl rfl rfl rfl ?_
          exact wpo_nil ⟨rfl, hi389⟩
         refine yll_cons rfl (fun w391 hi392 => ?_) ?_
         ·
          have hb393 := low0 hb216 hi392
          refine wpo_move (v := .bool (decide ((ms.length : Int) < (rAt (mAt ms k).t.slots j).th))) rfl rfl ?_
          exact wpo_nil ⟨rfl, hi392⟩
         refine yll_cons rfl (fun w394 hi395 => ?_) ?_
         ·
          have hb396 := low0 hb216 hi395
          refine wpo_run rfl rfl rfl h226 ?_
          refine wpo_fieldAddr (o' := 0) fo_74_0 rfl rfl rfl ?_
          exact wpo_nil ⟨rfl, hi395⟩
         refine yll_cons rfl (fun w397 hi398 => ?_) ?_
         ·
          have hb399 := low0 hb216 hi398
          refine wpo_run rfl rfl rfl h226 ?_
          have k400 := (hS215.blk.grown0 hi398)
          refine wpo_load1 (v := .int .i64 ((rAt (mAt ms k).t.slots j).th)) ot_3 rfl (k400.cell rfl) rfl ?_
          exact wpo_nil ⟨rfl, hi398⟩
         refine yll_cons rfl (fun w401 hi402 => ?_) ?_
         ·
          have hb403 := low0 hb216 hi402
          refine wpo_run rfl rfl rfl h226 ?_
          refine wpo_gtr (q := decide (0 < (rAt (mAt ms k).t.slots j).th)) rfl rfl rfl rfl ?_
          exact wpo_nil ⟨rfl, hi402⟩
         refine yll_cons rfl (fun w404 hi405 => ?_) ?_
         ·
          have hb406 := low0 hb216 hi405
          refine wpo_run rfl rfl rfl h226 ?_
          refine wpo_move (v := .bool (decide (0 < (rAt (mAt ms k).t.slots j).th))) rfl rfl ?_
          exact wpo_nil ⟨rfl, hi405⟩
         refine yll_cons rfl (fun w407 hi408 => ?_) ?_
         ·
          have hb409 := low0 hb216 hi408
          refine wpo_pass rfl rfl rfl h290 rfl ?_
          exact wpo_nil ⟨rfl, hi408⟩
         refine yll_cons rfl (fun w410 hi411 => ?_) ?_
         ·
          have hb412 := low0 hb216 hi411
          refine wpo_pass rfl rfl rfl h290 rfl ?_
          exact wpo_nil ⟨rfl, hi411⟩
         refine yll_cons rfl (fun w413 hi414 => ?_) ?_
         ·
          have hb415 := low0 hb216 hi414
          refine wpo_pass rfl rfl rfl h290 rfl ?_
          exact wpo_nil ⟨rfl, hi414⟩
         refine yll_cons rfl (fun w416 hi417 => ?_) ?_
         ·
          have hb418 := low0 hb216 hi417
          refine wpo_pass rfl rfl rfl h290 rfl ?_
          exact wpo_nil ⟨rfl, hi417⟩
         refine yll_cons rfl (fun w419 hi420 => ?_) ?_
         ·
          have hb421 := low0 hb216 hi420
          refine wpo_pass rfl rfl rfl h290 rfl ?_
          exact wpo_nil ⟨rfl, hi420⟩
         refine yll_cons rfl (fun w422 hi423 => ?_) ?_
         ·
          have hb424 := low0 hb216 hi423
          refine wpo_pass rfl rfl rfl h290 rfl ?_
          exact wpo_nil ⟨rfl, hi423⟩
         refine yll_cons rfl (fun w425 hi426 => ?_) ?_
         ·
          have hb427 := low0 hb216 hi426
          refine wpo_pass rfl rfl rfl h290 rfl ?_
          exact wpo_nil ⟨rfl, hi426⟩
         refine yll_cons rfl (fun w428 hi429 => ?_) ?_
         ·
          have hb430 := low0 hb216 hi429
          refine wpo_pass rfl rfl rfl h290 rfl ?_
          exact wpo_nil ⟨rfl, hi429⟩
         refine yll_cons rfl (fun w431 hi432 => ?_) ?_
         ·
          have hb433 := low0 hb216 hi432
          refine wpo_pass rfl rfl rfl h290 rfl ?_
          exact wpo_nil ⟨rfl, hi432⟩
         exact yll_nil
        ·
         intro w434 hi435
         have hb436 := low0 hb216 hi435
         refine wpo_pass rfl rfl rfl h290 rfl ?_
         refine wpo_run rfl rfl rfl h226 ?_
         refine wpo_pickf (v := .bool false) rfl h290 rfl rfl ?_
         refine wpo_pickf (v := .bool false) rfl h226 rfl rfl ?_
         exact wpo_nil (thn_n ⟨⟨e189, e190, e188, (congrArg Value.bool (by first | (simp only [h107, h180, h181, h182, h183, h200, h226, h290, b0, b1, b2, b3, b4, b5, b6, b7, b8, b9]; done) | simp [h107, h180, h181, h182, h183, h200, h226, h290]))⟩, hi435⟩)
     ·
      rintro f437 w438 ⟨⟨e439, e440, e441, e442⟩, hg443⟩
      have hb444 := low0 hb216 hg443
      refine wpf_cond e442 (fun h445 => ?_) (fun h445 => ?_)
      ·
       refine wpf_seq_region ?_
       refine wpo_assign (v := .bool false) rfl rfl ?_
       refine wpo_nil ?_
       refine wpf_ret ?_
       refine blk_r ?_
       refine thn_r ?_
       refine thn_r ?_
       refine blk_r ?_
       refine blk_r ?_
       refine thn_r ?_
       refine thn_r ?_
       refine blk_r ?_
       refine thn_r ?_
       refine ⟨.bool false, res1 rfl rfl, ?_, hb444⟩
       exact congrArg Value.bool (tab_no (by omega) (row_no1 (rAt_get (by omega)) (nt_t ((row_right (th_right ((row_head rfl).2 h180).1 (rAt_get (by omega))).1).symm.trans h445))))
      ·
       have h446 := or_l h445
       have h447 := of_decide_eq_false h446
       have h448 := or_r h445
       refine wpf_skip ?_
       refine blk_n ?_
       refine thn_n ?_
       refine wpf_region ?_
       refine wpo_move (v := .int .i64 (j : Int)) e441 rfl ?_
       refine wpo_add (c := (j : Int) + 1) rfl rfl (by omega) (by omega) (by omega) rfl ?_
       refine wpo_assign (v := .int .i64 ((j : Int) + 1)) rfl rfl ?_
       refine wpo_nil ?_
       refine thn_n ?_
       exact ⟨(mAt ms k).t.slots.length - (j + 1), by omega, (j + 1), rfl, (by omega), (take_all_succ hrs (rAt_get (by omega)) (nt_f ((row_right (th_right ((row_head rfl).2 h180).1 (rAt_get (by omega))).1).symm.trans h445))), rfl, e439, e440, hb444⟩
    ·
     have h449 := of_decide_eq_false h200
     refine wpf_exit ?_
     refine thn_e ?_
     refine thn_e ?_
     refine blk_e ?_
     refine blk_n ?_
     refine thn_n ?_
     refine wpf_region ?_
     refine wpo_move (v := .int .i64 (k : Int)) e190 rfl ?_
     refine wpo_add (c := (k : Int) + 1) rfl rfl (by omega) (by omega) (by omega) rfl ?_
     refine wpo_assign (v := .int .i64 ((k : Int) + 1)) rfl rfl ?_
     refine wpo_nil ?_
     refine thn_n ?_
     exact ⟨ms.length - (k + 1), by omega, (k + 1), rfl, (by omega), (take_all_succ hall (tab_at (by omega)) (row_yes ((row_head rfl).2 h180).1 ((row_head rfl).2 h180).2 hrs (by omega))), rfl, e189, hb186⟩
 ·
  have h450 := of_decide_eq_false h107
  refine wpf_exit ?_
  refine thn_e ?_
  refine thn_e ?_
  refine blk_e ?_
  refine thn_n ?_
  refine wpf_seq_region ?_
  refine wpo_move (v := .slice a ms.length c) e106 rfl ?_
  refine wpo_len (by kernel_rfl) rfl rfl ?_
  refine wpo_call (vs := [.int .i64 (ms.length : Int), .int .i64 1, .int .i64 8]) gf_46 (args_cons rfl (args_cons rfl (args_cons rfl args_nil))) rfl (l6In_c (ms.length : Int) 1 8 _) ?_
  rintro _ w451 ⟨rfl, hg452⟩
  have hb453 := low0 hb103 hg452
  refine wpo_assign (v := .bool (inR (ms.length : Int) 1 8)) rfl rfl ?_
  refine wpo_nil ?_
  refine wpf_ret ?_
  refine ⟨.bool (inR (ms.length : Int) 1 8), res1 rfl rfl, ?_, hb453⟩
  exact congrArg Value.bool (tab_yes hall (by omega))
end Go.Dw.J
end
section
namespace Go.Dw.J
open Go.Dw Go.RowKit
open Go.Conc (G)
set_option linter.unusedVariables false
set_option linter.unusedSimpArgs false
set_option linter.unusedSectionVars false
section
variable {P : Program}
theorem q_getLoop (l : Nat) : Quiet P (Instr.getLoop l) := fun o h => by
  cases o <;> first
    | exact h.elim
    | exact Or.inl ⟨rfl, trivial⟩
    | exact Or.inr trivial
theorem q_setLoop (l : Nat) (r : Loop) : Quiet P (setObj l (.loop r)) := ⟨⟨trivial, trivial, rfl⟩, trivial⟩
theorem q_newLoop (r : Loop) : Quiet P (newObj (.loop r)) := ⟨trivial, fun _ => trivial⟩
theorem q_newDef (r : Option (List Deferred)) : Quiet P (newObj (.deferred r)) := ⟨trivial, fun _ => trivial⟩
theorem q_yield (l : Nat) (args : Array Value) : Quiet P (Instr.yield l args) := by
  unfold Instr.yield
  refine qb (q_getLoop l) fun r => ?_
  split
  · exact qb (q_stuck _) fun _ => qp _
  · exact qp _
theorem q_beginRound (l : Nat) : Quiet P (Instr.beginRound l) := by
  unfold Instr.beginRound
  refine qb (q_getLoop l) fun r => qb (q_setLoop l _) fun _ => ?_
  split <;> first | exact qp _ | exact q_runtimePanic _
theorem q_endRound (l : Nat) (j : Option Code) : Quiet P (Instr.endRound l j) := by
  unfold Instr.endRound
  exact qb (q_getLoop l) fun r => qb (q_setLoop l _) fun _ => qp _
theorem q_endLoop (l : Nat) : Quiet P (Instr.endLoop l) := by
  unfold Instr.endLoop
  refine qb (q_getLoop l) fun r => ?_
  split
  · exact qb (q_runtimePanic _) fun _ => qb (q_setLoop l _) fun _ => qp _
  · exact qb (q_setLoop l _) fun _ => qp _
theorem q_enterLoop (fn : FuncId) (tmps : Array Value) (ps : Array Tmp) (assign body : Code) : Quiet P (Instr.enterLoop fn tmps ps assign body none) := by
  unfold Instr.enterLoop
  dsimp only
  exact qb (q_newDef _) fun _ => qb (qp _) fun _ => qb (q_newLoop _) fun _ => qp _
theorem q_takeDeferred (D : Nat) : Quiet P (Instr.takeDeferred D) := fun o h => by
  cases o with
  | deferred r =>
    cases r with
    | none => exact Or.inl ⟨rfl, trivial⟩
    | some ds => exact Or.inl ⟨rfl, ⟨trivial, trivial, rfl⟩, trivial⟩
  | cells _ _ _ => exact h.elim
  | _ => exact Or.inr trivial
end
section
variable [Comp] {P : Program}
def YieldAt (P : Program) (l : Nat) (args : Array Value) (W : World) (R : Value → World → Prop) : Prop :=
  ∃ fn tmps assign body, (∀ A1, Ext W A1 → (Instr.yield l args).run P A1 = .ok (.round l fn tmps assign body) A1) ∧ FrameR P (Frame.round l fn tmps assign body .normal) W R
variable {n : Nat} {ops : Array Oper} {K : Fr → World → Prop} {l : List Oper} {f : Fr} {w : World} {o : Oper} {ty : TypeId} {pos : String} {aft : Array Edge} {d : Nat}
theorem wpo_yield {x : Operand} {args : Array Operand} {ats : Array TypeId} {lr : Nat} {vs : List Value} {R : Value → World → Prop} (hx : ev f x = .func (.yield lr) #[] #[]) (ha : args.toList.map (ev f) = vs) (hd : Nat.blt d n = true) (hy : YieldAt P lr vs.toArray w R)
    (h : ∀ v w', R v w' → WpO P n ops K l (up f d v) w') : WpO P n ops K (⟨some d, .call ⟨.value x, args, ats⟩, ty, pos, aft, none⟩ :: l) f w := fun a hfa => by
  obtain ⟨fn, tmps, assign, body, hr, hR⟩ := hy
  have e1 : args.map (ev f) = vs.toArray := by rw [← ha]; apply Array.ext'; simp
  have e2 : execOp (ev f) ⟨some d, .call ⟨.value x, args, ats⟩, ty, pos, aft, none⟩ = (Deferred.ofValue (ev f x) (args.map (ev f)) >>= fun d => invoke d.target d.args) := rfl
  have e3 : execOp (ev f) ⟨some d, .call ⟨.value x, args, ats⟩, ty, pos, aft, none⟩ = Instr.yield lr (#[] ++ vs.toArray) := by
    rw [e2, hx, e1]
    rfl
  have e4 : #[] ++ vs.toArray = vs.toArray := by simp
  rw [e4] at e3
  refine Or.inl ⟨by simp [Region.wanted], Or.inr ⟨R, special_enter (by rw [hfa.eval, e3]; exact q_yield _ _) (fun A1 hE => ⟨_, by rw [hfa.eval, e3]; exact hr A1 hE, Or.inr ⟨lr, fn, tmps, assign, body, rfl, rfl⟩⟩) hR, fun v A' hRv => ⟨_, hfa.put hd v, h v A' hRv⟩⟩⟩
def SeqStops {α : Type} (P : Program) (g : Nat) (lb : Array Value) (encs : α → Array Value) (Kp : World → World → Prop) (S Sp : List α → Prop) (N : Nat) (w : World) : Prop :=
  ∀ (l : Nat) (J Jx : List α → World → Prop) (W : World), Below w.heap.size w W → AbidesFrom W.heap.size J → AbidesFrom W.heap.size Jx →
    (∀ pre x W1, J pre W1 → pre.length < N → YieldAt P l (encs x) W1 fun v W' => (v = .bool true ∧ J (pre ++ [x]) W' ∧ Kp W1 W') ∨ (v = .bool false ∧ Jx (pre ++ [x]) W')) →
    J [] W → CallsR P g (#[.func (.yield l) #[] #[]] ++ lb) W fun v W' => (∃ xs, S xs ∧ J xs W') ∨ (∃ pre, Sp pre ∧ Jx pre W')
end
def lp (st : LoopState) (pd : Option Code) (fn : FuncId) (tmps : Array Value) (ps : Array Tmp) (assign body : Code) (D : Nat) : Obj := .loop { state := st, pending := pd, fn, tmps, params := ps, assign, body, defers := D }
theorem putObj_get {W : World} {l j : Nat} {o : Obj} (h : l ≠ j) : (W.putObj l o).heap[j]? = W.heap[j]? := by simp [World.putObj, Array.getElem?_setIfInBounds_ne h]
theorem putObj_self {W : World} {l : Nat} {o o' : Obj} (h : W.heap[l]? = some o') : (W.putObj l o).heap[l]? = some o := by
  have := (Array.getElem?_eq_some_iff.1 h).1
  simp [World.putObj, this]
theorem ext_put {A A1 : World} {l : Nat} {o : Obj} (hE : Ext A A1) (hl : l < A.heap.size) : Ext (A.putObj l o) (norm A (A1.putObj l o)) := by
  obtain ⟨m, h1, h2, h3⟩ := hE
  refine ⟨m, ?_, h2, h3⟩
  show A1.heap.setIfInBounds l o = A.heap.setIfInBounds l o ++ Array.replicate m pz
  rw [h1]
  apply Array.ext'
  simp [List.set_append, hl]
section
variable [Comp] {P : Program} {J : Goroutine → World → Prop}
theorem Closed.turn (hJ : Closed P J) {α : Type} {s : Sem α} {g : Goroutine} {next : α → Goroutine} {A : World} {l : Nat} {o o' : Obj} {x : α} (hr : g.status = .running) (hq : Quiet P s) (hl : A.heap[l]? = some o)
    (hst : ∀ w x w' es, s.runT P w #[] = (.ok x w', es) → ∃ es', stepG P Comp.main g w = .go (next x) w' es' ∧ ∀ e ∈ es', e ∈ es)
    (hrun : ∀ A1 : World, A1.heap[l]? = some o → s.run P A1 = .ok x (A1.putObj l o')) (h : J (next x) (A.putObj l o')) : J g A :=
  hJ.sem hr hq hst fun A1 hE => ⟨x, _, hrun A1 (by rw [hE.get (Array.getElem?_eq_some_iff.1 hl).1]; exact hl), hJ.ext _ _ _ (ext_put hE (Array.getElem?_eq_some_iff.1 hl).1) rfl h⟩
theorem sem_es {P : Program} {α : Type} {s : Sem α} {w w' : World} {x : α} {es : Array Event} (hh : s.runT P w #[] = (.ok x w', es)) : s.run P w = .ok x w' ∧ s.events P w #[] = es := by
  have e1 := Sem.runT_fst P s w #[]
  rw [hh] at e1
  exact ⟨e1.symm, by unfold Sem.events; rw [hh]⟩
def rb (l : Nat) (fn : FuncId) : Frame := { (default : Frame) with fn := fn, kind := .normal, roundOf := some l }
theorem round_at (l : Nat) (fn : FuncId) (tmps : Array Value) (assign body : Code) : Frame.round l fn tmps assign body .normal = ato (rb l fn) { tmps := tmps, defers := [] } [.code assign, .beginRound, .code body] := rfl
theorem round_runs {l : Nat} {fn : FuncId} {tmps rt : Array Value} {ps : Array Tmp} {assign body : Code} {D : Nat} {n : Nat} {f0 : Fr} {W : World} {Mid : Fr → World → Prop} {R : Value → World → Prop}
    (hf0 : FEq n { tmps := tmps, defers := [] } f0)
    (ha : Wpf P n (fun e f' W' => e = .normal ∧ W'.heap[l]? = some (lp .ready none fn rt ps assign body D) ∧ Mid f' (W'.putObj l (lp .busy none fn rt ps assign body D))) assign f0 W)
    (hb : ∀ f1 W1, Mid f1 W1 → Wpf P n (fun e f' W' => (e = .normal ∧ W'.heap[l]? = some (lp .busy none fn rt ps assign body D) ∧ R (.bool true) (W'.putObj l (lp .ready none fn rt ps assign body D))) ∨
      (e = .ret ∧ W'.heap[l]? = some (lp .busy none fn rt ps assign body D) ∧ R (.bool false) (W'.putObj l (lp .done (some .ret) fn rt ps assign body D)))) body f1 W1) :
    FrameR P (Frame.round l fn tmps assign body .normal) W R := fun J hJ c cs hk => by
  have hend : ∀ (a' : Act) (todo : List Item) (jump : Option Code) (W' : World) (o' : Obj), (todo = [] ∧ jump = none ∨ (∃ k, todo = .code .ret :: k) ∧ jump = some .ret) → W'.heap[l]? = some (lp .busy none fn rt ps assign body D) →
      o' = lp (if jump.isNone then .ready else .done) jump fn rt ps assign body D → R (.bool jump.isNone) (W'.putObj l o') → J (G (ato (rb l fn) a' todo) (c :: cs)) W' := fun a' todo jump W' o' htodo hl ho' hR => by
    subst ho'
    refine hJ.turn (s := Instr.endRound l jump) (next := fun v => G (c.finish v) cs) (x := .bool jump.isNone) rfl (q_endRound l jump) hl (fun w x w' es hh => ⟨seen P fn es, ?_, fun e he => Go.Conc.mem_seen he⟩) (fun A1 h1 => run_endRound jump h1) (hk _ _ hR)
    obtain ⟨e1, e2⟩ := sem_es hh
    rcases htodo with ⟨rfl, rfl⟩ | ⟨⟨k, rfl⟩, rfl⟩ <;> simp [G, stepG, stepG.exec, ato, rb, doReturn, e1, e2, GStep.after]
  rw [round_at]
  refine ha J hJ (rb l fn) (by simp [rb]) _ _ _ hf0 fun e a1 f1 W1 hf1 hQ => ?_
  obtain ⟨rfl, hl1, hm⟩ := hQ
  show J (G (ato (rb l fn) a1 [.beginRound, .code body]) (c :: cs)) W1
  refine hJ.turn (s := Instr.beginRound l) (next := fun _ => G (ato (rb l fn) a1 [.code body]) (c :: cs)) (x := ()) rfl (q_beginRound l) hl1 (fun w x w' es hh => ⟨seen P fn es, ?_, fun e he => Go.Conc.mem_seen he⟩) (fun A1 h1 => run_beginRound h1 rfl) ?_
  · obtain ⟨e1, e2⟩ := sem_es hh
    simp [G, stepG, stepG.exec, stepG.apply, ato, rb, Frame.finish, e1, e2, GStep.after]
  · refine hb f1 _ hm J hJ (rb l fn) (by simp [rb]) [] (c :: cs) a1 hf1 fun e a2 f2 W2 hf2 hQ => ?_
    rcases hQ with ⟨rfl, hl2, hR⟩ | ⟨rfl, hl2, hR⟩
    · exact hend a2 [] none W2 _ (Or.inl ⟨rfl, rfl⟩) hl2 rfl hR
    · exact fun k => hend a2 _ (some .ret) W2 _ (Or.inr ⟨⟨k, rfl⟩, rfl⟩) hl2 rfl hR
def AbidesN {β : Type} (B : Nat) (J : β → World → Prop) : Prop :=
  ∀ s A A' row, J s A → A.grownBy A' row → (∀ r, row = some r → B ≤ r ∧ ∃ o : Obj, A.heap[r]? = some o ∧ o.isCells = false) → J s A'
theorem walk_cells {o : Obj} (h : o.isWalk = true) : o.isCells = false := by cases o <;> first | rfl | cases h
def KeepH (lo : Nat) (W W' : World) : Prop := ∀ j, lo ≤ j → j < W.heap.size → W'.heap[j]? = W.heap[j]?
theorem runT_callGo {P : Program} {k : FuncId} (h : goFn P k = true) (args : Array Value) (w : World) (es : Array Event) : (callFunc k args).runT P w es = (.ok (.enter k args) w, es) := by
  unfold goFn at h
  split at h
  · rename_i fn hf
    simp only [Bool.and_eq_true, Bool.not_eq_true'] at h
    obtain ⟨hb, hn⟩ := h
    have hb' : fn.body.isNone = false := by cases hh : fn.body <;> simp_all
    show Sem.runT P (match P.funcs[k]? with | none => _ | some fn => _) w es = _
    rw [hf]
    simp only [hn, hb', Bool.false_eq_true, if_false]
    rfl
  · cases h
theorem range_own (hJ : Closed P J) {α : Type} {b : Frame} (hbk : b.kind ≠ .early) (hro : b.roundOf = none) {k : List Item} {cs : List Frame} {tm : Array Value} {fo : Operand} {xslot : Nat} {assign body : Code} {g : FuncId} {lb : Array Value} {encs : α → Value} {S Sp : List α → Prop} {N n : Nat} {w0 w : World} {fT : Fr}
    (ha : FEq n { tmps := tm, defers := [] } fT) (hf : ev fT fo = .func (.func g) #[] lb) (hgo : goFn P g = true) (hxs : Nat.blt xslot n = true)
    (hseq : SeqStops P g lb (fun x => #[encs x]) (Below w0.heap.size) S Sp N w0) (h0 : Below w0.heap.size w0 w) (h0s : w0.heap.size ≤ w.heap.size)
    (I Ix : List α → World → Prop) (hI : AbidesN w.heap.size I) (hIx : AbidesN w.heap.size Ix) (hi0 : I [] w)
    (M : α → Fr → World → Prop) (hM : ∀ f, AbidesN w.heap.size (fun x => M x f))
    (hassign : ∀ pre x W, w.heap.size ≤ W.heap.size → I pre W → Wpf P n (fun e f' W' => e = .normal ∧ W.grownBy W' none ∧ M x f' W') assign (up fT xslot (encs x)) W)
    (hbody : ∀ pre x f' W, w.heap.size ≤ W.heap.size → I pre W → M x f' W → pre.length < N → Wpf P n (fun e f'' W' => (e = .normal ∧ KeepH w.heap.size W W' ∧ Below w0.heap.size W W' ∧ I (pre ++ [x]) W') ∨ (e = .ret ∧ KeepH w.heap.size W W' ∧ W.heap.size ≤ W'.heap.size ∧ Ix (pre ++ [x]) W')) body f' W)
    (hdone : ∀ D xs W, w.heap.size ≤ D → S xs → I xs W → W.heap[D]? = some (.deferred (some [])) → J (G (ato b { tmps := tm, defers := [{ target := .collected D, args := #[] }] } k) cs) W)
    (hstop : ∀ D pre W, w.heap.size ≤ D → Sp pre → Ix pre W → W.heap[D]? = some (.deferred (some [])) → J (G (ato b { tmps := tm, defers := [{ target := .collected D, args := #[] }] } (.code .ret :: k)) cs) W) :
    J (G (ato b { tmps := tm, defers := [] } (.code (.rangeFunc fo #[xslot] assign body) :: k)) cs) w := by
  refine hJ.sem (s := Instr.enterLoop b.fn tm #[xslot] assign body none) (next := fun x => G (Frame.enter P g (#[.func (.yield x.1) #[] #[]] ++ lb) .normal) (ato b { tmps := tm, defers := x.2 } (.inRangeFunc x.1 :: k) :: cs)) rfl (q_enterLoop _ _ _ _ _) (fun w1 x w' es hh => ?_) fun A1 hE => ?_
  · have hev : ∀ fr : Frame, fr.tmps = tm → fr.eval fo = .func (.func g) #[] lb := fun fr htm => by
      rw [← hf, ← ha.eval]
      cases fo <;> simp [Frame.eval, Act.eval, htm]
    have hres : ∀ (fr : Frame) (l : Nat), fr.tmps = tm → resolve fr.eval { callee := .value fo, args := #[.const (.func (.yield l) #[] #[])], argTypes := #[] } 0 = (pure { target := .fn (.func g) lb, args := #[.func (.yield l) #[] #[]] } : Sem Deferred) := fun fr l htm => by
      have e : resolve fr.eval { callee := .value fo, args := #[.const (.func (.yield l) #[] #[])], argTypes := #[] } 0 = Deferred.ofValue (fr.eval fo) (#[Operand.const (.func (.yield l) #[] #[])].map fr.eval) := rfl
      have e2 : #[Operand.const (.func (.yield l) #[] #[])].map fr.eval = #[.func (.yield l) #[] #[]] := by simp [Frame.eval]
      rw [e, e2, hev fr htm]
      rfl
    have hev2 : ∀ (args : Array Value) (w : World), (callFunc g args).events P w #[] = #[] := fun args w => by unfold Sem.events; rw [runT_callGo hgo]
    obtain ⟨e1, e2⟩ := sem_es hh
    refine ⟨seen P b.fn es ++ seen P b.fn #[], ?_, fun e he => ?_⟩
    · obtain ⟨l, mark⟩ := x
      have hk' : (b.kind == CallKind.early) = false := by simpa using hbk
      simp [G, stepG, stepG.exec, stepG.apply, ato, hro, e1, e2, hres, invoke, run_callGo hgo, hev2, GStep.after, hk']
    · rw [Go.Conc.seen_none, Array.append_empty] at he
      exact Go.Conc.mem_seen he
  · have key : ∀ (W0 : World) (D : Nat), w.heap.size ≤ D → w.grownBy W0 none → D + 1 < W0.heap.size → W0.heap[D + 1]? = some (lp .ready none b.fn tm #[xslot] assign body D) → W0.heap[D]? = some (.deferred (some [])) →
        J (G (Frame.enter P g (#[.func (.yield (D + 1)) #[] #[]] ++ lb) .normal) (ato b { tmps := tm, defers := [{ target := .collected D, args := #[] }] } (.inRangeFunc (D + 1) :: k) :: cs)) W0 := by
      intro W0 D hD hg0 hs0 hl0 hd0
      have hput : ∀ (W' : World) (o o' : Obj), W'.heap[D + 1]? = some o → o.isCells = false → W'.grownBy (W'.putObj (D + 1) o') (some (D + 1)) ∧ ∀ r, some (D + 1) = some r → w.heap.size ≤ r ∧ ∃ o : Obj, W'.heap[r]? = some o ∧ o.isCells = false := fun W' o o' ho hc =>
        ⟨grownBy_putObj' _ _ _, fun r e => by cases e; exact ⟨by omega, o, ho, hc⟩⟩
      have hab : ∀ {β : Type} (Q : β → World → Prop), AbidesN w.heap.size Q → ∀ st pd, AbidesFrom W0.heap.size (fun pre W => Q pre W ∧ w.heap.size ≤ W.heap.size ∧ W.heap[D + 1]? = some (lp st pd b.fn tm #[xslot] assign body D) ∧ W.heap[D]? = some (.deferred (some []))) := fun Q hQ st pd s A A' row ⟨h1, h2, h3, h4⟩ hg hr => by
        have hne : ∀ j, j ≤ D + 1 → some j ≠ row := fun j hj e => by have := (hr j e.symm).1; omega
        exact ⟨hQ _ _ _ _ h1 hg (fun r e => ⟨Nat.le_trans (by omega : w.heap.size ≤ W0.heap.size) (hr r e).1, let ⟨o, ho, hw⟩ := (hr r e).2; ⟨o, ho, walk_cells hw⟩⟩), Nat.le_trans h2 hg.size,
          (hg.block _ (Array.getElem?_eq_some_iff.1 h3).1 (hne _ (Nat.le_refl _))).trans h3, (hg.block _ (Array.getElem?_eq_some_iff.1 h4).1 (hne _ (by omega))).trans h4⟩
      refine hseq (D + 1) (fun pre W => I pre W ∧ w.heap.size ≤ W.heap.size ∧ W.heap[D + 1]? = some (lp .ready none b.fn tm #[xslot] assign body D) ∧ W.heap[D]? = some (.deferred (some [])))
        (fun pre W => Ix pre W ∧ w.heap.size ≤ W.heap.size ∧ W.heap[D + 1]? = some (lp .done (some .ret) b.fn tm #[xslot] assign body D) ∧ W.heap[D]? = some (.deferred (some []))) W0 (h0.grown hg0 h0s (by simp)) (hab I hI _ _) (hab Ix hIx _ _) ?_ ⟨hI _ _ _ none hi0 hg0 (by simp), hg0.size, hl0, hd0⟩ J hJ _ cs ?_
      · rintro pre x W1 ⟨h1, h2, h3, h4⟩ hlen
        have hl1 := (Array.getElem?_eq_some_iff.1 h3).1
        have hl2 := (Array.getElem?_eq_some_iff.1 h4).1
        refine ⟨b.fn, tm.setIfInBounds xslot (encs x), assign, body, fun A1 hE1 => ?_, ?_⟩
        · have := run_yield (P := P) (args := #[encs x]) (w := A1) (l := D + 1) (r := { state := .ready, pending := none, fn := b.fn, tmps := tm, params := #[xslot], assign, body, defers := D }) (by rw [hE1.get hl1]; exact h3) rfl
          simpa using this
        · refine round_runs (n := n) (f0 := up fT xslot (encs x)) (D := D) (rt := tm) (ps := #[xslot])
            (Mid := fun f' W' => M x f' W' ∧ I pre W' ∧ w.heap.size ≤ W'.heap.size ∧ W'.heap[D + 1]? = some (lp .busy none b.fn tm #[xslot] assign body D) ∧ W'.heap[D]? = some (.deferred (some [])) ∧ Below w0.heap.size W1 W')
            (by have hp := ha.put (d := xslot) hxs (encs x); simpa [Act.put] using hp) ((hassign pre x W1 h2 h1).mono ?_) (fun f1 W2 hm => (hbody pre x f1 W2 hm.2.2.1 hm.2.1 hm.1 hlen).mono ?_)
          · rintro e f' W' ⟨rfl, hg, hm⟩
            have hl' := (hg.block _ hl1 (by simp)).trans h3
            obtain ⟨hp, hc⟩ := hput W' _ (lp .busy none b.fn tm #[xslot] assign body D) hl' rfl
            have hb1 : Below w0.heap.size W1 W' := (Below.refl _ _).grown hg (Nat.le_trans h0s h2) (by simp)
            exact ⟨rfl, hl', hM f' _ _ _ _ hm hp hc, hI _ _ _ _ (hI _ _ _ none h1 hg (by simp)) hp hc, by rw [World.putObj_size]; exact Nat.le_trans h2 hg.size, putObj_self hl', (putObj_get (by omega)).trans ((hg.block _ hl2 (by simp)).trans h4),
              hb1.grown hp (Nat.le_trans h0s (Nat.le_trans h2 hg.size)) (fun j e => by cases e; omega)⟩
          · obtain ⟨hm1, hm2, hm3, hm4, hm5, hm6⟩ := hm
            rintro e f' W3 (⟨rfl, hk, hb3, hi3⟩ | ⟨rfl, hk, hsz, hx3⟩)
            · have hl3 := (hk (D + 1) (by omega) (Array.getElem?_eq_some_iff.1 hm4).1).trans hm4
              obtain ⟨hp, hc⟩ := hput W3 _ (lp .ready none b.fn tm #[xslot] assign body D) hl3 rfl
              exact Or.inl ⟨rfl, hl3, Or.inl ⟨rfl, ⟨hI _ _ _ _ hi3 hp hc, by rw [World.putObj_size]; exact Nat.le_trans hm3 hb3.size, putObj_self hl3, (putObj_get (by omega)).trans ((hk D hD (Array.getElem?_eq_some_iff.1 hm5).1).trans hm5)⟩,
                (hm6.trans hb3).grown hp (Nat.le_trans h0s (Nat.le_trans hm3 hb3.size)) (fun j e => by cases e; omega)⟩⟩
            · have hl3 := (hk (D + 1) (by omega) (Array.getElem?_eq_some_iff.1 hm4).1).trans hm4
              obtain ⟨hp, hc⟩ := hput W3 _ (lp .done (some .ret) b.fn tm #[xslot] assign body D) hl3 rfl
              exact Or.inr ⟨rfl, hl3, Or.inr ⟨rfl, hIx _ _ _ _ hx3 hp hc, by rw [World.putObj_size]; exact Nat.le_trans hm3 hsz, putObj_self hl3, (putObj_get (by omega)).trans ((hk D hD (Array.getElem?_eq_some_iff.1 hm5).1).trans hm5)⟩⟩
      · intro v A' h
        show J (G (ato b { tmps := tm, defers := [{ target := .collected D, args := #[] }] } (.endRangeFunc (D + 1) :: k)) cs) A'
        have hst : ∀ (w1 : World) (x : Option Code) (w' : World) (es : Array Event), (Instr.endLoop (D + 1)).runT P w1 #[] = (.ok x w', es) → ∃ es', stepG P Comp.main (G (ato b { tmps := tm, defers := [{ target := .collected D, args := #[] }] } (.endRangeFunc (D + 1) :: k)) cs) w1 =
            .go (G (ato b { tmps := tm, defers := [{ target := .collected D, args := #[] }] } ((x.map Item.code).toList ++ k)) cs) w' es' ∧ ∀ e ∈ es', e ∈ es := fun w1 x w' es hh => ⟨seen P b.fn es, by
          obtain ⟨e1, e2⟩ := sem_es hh
          simp [G, stepG, stepG.exec, ato, e1, e2, GStep.after], fun e he => Go.Conc.mem_seen he⟩
        rcases h with ⟨xs, hS, h1, h2, h3, h4⟩ | ⟨pre, hSp, h1, h2, h3, h4⟩
        · obtain ⟨hp, hc⟩ := hput A' _ (lp .exhausted none b.fn tm #[xslot] assign body D) h3 rfl
          exact hJ.turn (x := none) rfl (q_endLoop _) h3 hst (fun A1 h => run_endLoop h (by simp)) (hdone D xs _ hD hS (hI _ _ _ _ h1 hp hc) ((putObj_get (by omega)).trans h4))
        · obtain ⟨hp, hc⟩ := hput A' _ (lp .exhausted (some .ret) b.fn tm #[xslot] assign body D) h3 rfl
          exact hJ.turn (x := some Code.ret) rfl (q_endLoop _) h3 hst (fun A1 h => run_endLoop h (by simp)) (hstop D pre _ hD hSp (hIx _ _ _ _ h1 hp hc) ((putObj_get (by omega)).trans h4))
    refine ⟨_, _, run_enterLoop_outer _ _ _ _ _, ?_⟩
    have hg : A1.grownBy ((A1.alloc (.deferred (some []))).alloc (lp .ready none b.fn tm #[xslot] assign body A1.heap.size)) none := grown_trans (World.grownBy_alloc _ _ _) (World.grownBy_alloc _ _ _)
    refine key _ A1.heap.size hE.size (hE.grow hg) ?_ ?_ ?_
    · show A1.heap.size + 1 < ((A1.heap.push _).push _).size
      simp
    · have h := World.alloc_heap_new (A1.alloc (.deferred (some []))) (lp .ready none b.fn tm #[xslot] assign body A1.heap.size)
      rw [World.size_alloc] at h
      exact h
    · show ((A1.heap.push _).push _)[A1.heap.size]? = _
      rw [Array.getElem?_push_lt (by simp)]
      simp
theorem keepH_none {lo : Nat} {W W' : World} (hg : W.grownBy W' none) : KeepH lo W W' := fun j _ h2 => hg.block j h2 (by simp)
theorem keepH_some {lo B : Nat} {W W' : World} (hg : W.grownBy W' (some B)) (hB : B < lo) : KeepH lo W W' := fun j h1 h2 => hg.block j h2 (fun e => by cases e; omega)
structure EndJ (P : Program) (fn : Func) (R : Value → World → Prop) (J : Goroutine → World → Prop) (b : Frame) (cs : List Frame) : Prop where
  closed : Closed P J
  fnd : P.funcs[b.fn]? = some fn
  kind : b.kind = .normal
  ro : b.roundOf = none
  df : b.defers = []
  back : ∃ c cs0, cs = c :: cs0 ∧ ∀ v A', R v A' → J (G (c.finish v) cs0) A'
variable {fn : Func} {R : Value → World → Prop} {b : Frame} {cs : List Frame} {n : Nat}
theorem EndJ.early (h : EndJ P fn R J b cs) : b.kind ≠ .early := by rw [h.kind]; simp
theorem EndJ.fin (h : EndJ P fn R J b cs) {a : Act} {f : Fr} {A : World} (ha : FEq n a f) (hR : ∃ v, resV P fn f A v ∧ R v A) (k : List Item) : J (G (ato b a (.code .ret :: k)) cs) A := by
  obtain ⟨c, cs0, rfl, hk⟩ := h.back
  obtain ⟨v, hv, hR⟩ := hR
  exact h.closed.move rfl (fun w => stepG_ret h.ro) (h.closed.leave h.kind h.df ha.defers h.fnd (fun A1 hE => hv A1 hE _ ha.at_) (hk v A hR) _)
theorem EndJ.finD (h : EndJ P fn R J b cs) {tm : Array Value} {f : Fr} {A : World} {D : Nat} (ha : FEq n { tmps := tm, defers := [] } f) (hD : A.heap[D]? = some (.deferred (some [])))
    (hR : ∃ v, resV P fn f (A.putObj D (.deferred none)) v ∧ R v (A.putObj D (.deferred none))) (k : List Item) : J (G (ato b { tmps := tm, defers := [{ target := .collected D, args := #[] }] } (.code .ret :: k)) cs) A := by
  obtain ⟨c, cs0, rfl, hk⟩ := h.back
  obtain ⟨v, hv, hR⟩ := hR
  refine h.closed.move rfl (fun w => stepG_ret h.ro) (h.closed.turn (s := Instr.takeDeferred D) (next := fun calls => G { ato b { tmps := tm, defers := calls } (.code .ret :: k) with mode := .returning } (c :: cs0)) (x := []) rfl (q_takeDeferred D) hD
    (fun w x w' es hh => ⟨seen P b.fn es, ?_, fun e he => Go.Conc.mem_seen he⟩) (fun A1 h1 => run_takeDeferred h1) (h.closed.leave h.kind h.df rfl h.fnd (fun A1 hE => hv A1 hE _ ha.at_) (hk v _ hR) _))
  obtain ⟨e1, e2⟩ := sem_es hh
  simp [G, stepG, unwind, ato, h.df, e1, e2, GStep.after]
def WpA [Comp] (P : Program) (n : Nat) (J : Goroutine → World → Prop) (b : Frame) (cs : List Frame) (k : List Item) (c : Code) (f : Fr) (A : World) : Prop := ∀ a, FEq n a f → J (G (ato b a (.code c :: k)) cs) A
theorem wpa_seq (hE : EndJ P fn R J b cs) {k : List Item} {x y : Code} {f : Fr} {A : World} (h : Wpf P n (thn (WpA P n J b cs k y) (endQ P fn R)) x f A) : WpA P n J b cs k (.seq x y) f A := fun a ha => by
  refine hE.closed.move rfl (fun w => stepG_seq) (h J hE.closed b hE.early (.code y :: k) cs a ha fun e a' f' A' hf hQ => ?_)
  cases e with
  | normal => exact hQ a' hf
  | ret => exact fun k2 => hE.fin hf hQ k2
  | exit i => exact hQ.elim
  | goto l => exact hQ.elim
  | panic c => exact hQ.elim
  | outgrown => exact hQ.elim
theorem wpa_seq_region (hE : EndJ P fn R J b cs) {k : List Item} {id : Nat} {l : List Oper} {y : Code} {f : Fr} {A : World} (h : WpO P n l.toArray (WpA P n J b cs k y) l f A) : WpA P n J b cs k (.seq (.region id l.toArray false) y) f A := wpa_seq hE (wpf_region h)
theorem wpa_seqT (hE : EndJ P fn R J b cs) {k : List Item} {x y : Code} {f : Fr} {A : World} (h : WpA P n J b cs (.code y :: k) x f A) : WpA P n J b cs k (.seq x y) f A := fun a ha => hE.closed.move rfl (fun w => stepG_seq) (h a ha)
theorem wpa_gen {k : List Item} {c : Code} {f : Fr} {A : World} (M : Fr → Prop) (h : M f) (hM : ∀ f, M f → WpA P n J b cs k c f A) : WpA P n J b cs k c f A := hM f h
theorem callsA {k : FuncId} {c : Code} {args : Array Value} {A : World} (hf : P.funcs[k]? = some fn) (hb : fn.body = some c) (hn : fn.ntmps = n) (hs : Nat.ble args.size n = true)
    (h : ∀ J b cs, EndJ P fn R J b cs → WpA P n J b cs [] c (f0 args) A) : CallsR P k args A R := fun J hJ cf cs hk => by
  have hs' : args.size ≤ n := by simpa [Nat.ble_eq] using hs
  rw [Go.Conc.enter_at args hf hb, ← ato_at (b := Go.Conc.base k) rfl rfl]
  refine h J (Go.Conc.base k) (cf :: cs) ⟨hJ, hf, rfl, rfl, rfl, cf, cs, rfl, hk⟩ _ ⟨rfl, by simp [hn]; omega, fun i => ?_⟩
  simp only [f0, lget_eq, Array.getD_eq_getD_getElem?, Array.getElem?_toList]
  by_cases hi : i < args.size
  · rw [Array.getElem?_append_left hi]
  · rw [Array.getElem?_append_right (by omega), Array.getElem?_eq_none (by omega : args.size ≤ i)]
    by_cases h2 : i - args.size < fn.ntmps - args.size
    · simp [h2]
    · rw [Array.getElem?_eq_none (by simp; omega)]
theorem endA {f : Fr} {A : World} {v : Value} (hv : resV P fn f A v) (hR : R v A) : endQ P fn R .ret f A := ⟨v, hv, hR⟩
theorem endStore (hE : EndJ P fn R J b cs) {k : List Item} {id : Nat} {a : Act} {fT : Fr} {t B : Nat} {x y : Operand} {T : TypeId} {cs0 cs' : Array Value} {v : Value} {W : World} {ty : TypeId} {pos : String} {aft : Array Edge}
    (he : a.eval = ev fT) (ht : oneTy P t = true) (hx : ev fT x = .pointer (some ⟨B, 0, none⟩)) (hy : ev fT y = v) (h1 : v.oneCell' = true) (hb : Blk W B T cs0) (ho : 0 < cs0.size) (hcs : cs0.setIfInBounds 0 v = cs')
    (h : ∀ W', SetB W W' B T cs' → J (G (ato b a (.code .ret :: k)) cs) W') : J (G (ato b a (.code (.seq (.region id #[⟨none, .store t x y, ty, pos, aft, none⟩] false) .ret) :: k)) cs) W := by
  refine hE.closed.move rfl (fun w => stepG_seq) (hE.closed.move rfl (fun w => stepG_region) ?_)
  show J (G (ato b a (.inRegion #[⟨none, .store t x y, ty, pos, aft, none⟩] [0] :: .code .ret :: k)) cs) W
  refine OpG.run (o := ⟨none, .store t x y, ty, pos, aft, none⟩) (K := fun a' A' => a' = a ∧ SetB W A' B T cs') (Or.inl ⟨by simp [Region.wanted], Or.inl ⟨by rw [he]; exact qu (q_storeAt _ _ _), fun A1 hX => ⟨.skip, undef, A1.setRow B cs', ?_, Or.inr ⟨rfl, rfl⟩, rfl, SetB.of hX (setB_setRow (hX.blk hb) cs')⟩⟩⟩) hE.closed hE.early rfl fun a' A' ⟨e, hS⟩ => ?_
  · rw [he]
    simp [execOp, hx, hy, run_store1 ht h1 (hX.blk hb) ho, hcs]
  · subst e
    exact hE.closed.move rfl (fun w => stepG_region_end) (h A' hS)
end
end Go.Dw.J
end
section
namespace Go.Dw.J
open Go.RowKit Go.Dw Go.Proofs
set_option linter.unusedSectionVars false
set_option maxRecDepth 100000
set_option maxHeartbeats 4000000
set_option linter.unusedSimpArgs false
set_option linter.unusedVariables false
theorem gf_111 : goFn Try.prog 111 = true := by kernel_rfl
theorem gf_71 : goFn Try.prog 71 = true := by kernel_rfl
theorem gf_72 : goFn Try.prog 72 = true := by kernel_rfl
theorem ot_23 : oneTy Try.prog 23 = true := by kernel_rfl
theorem zt_4 : zeroTy Try.prog 4 = some (.bool false) := by kernel_rfl
theorem allRights_c [Comp] (w : World) (ms : List MTh) (a : Option Addr) (c : Nat) : CallsR Try.prog 72 #[.slice a ms.length c] w (fun v w' => ∃ B : Nat, v = .func (.func 111) #[] #[.pointer (some ⟨B, 0, none⟩)] ∧ w.heap.size ≤ B ∧ Blk w' B 23 #[.slice a ms.length c] ∧ w.grownBy w' none) := by
 refine calls_of_wpf (n := 4) Try.func72 rfl Try.ntmps72 rfl ?_
 have hb0 := World.grownBy.refl w none
 refine wpf_seq_region ?_
 refine wpo_box (v := .slice a ms.length c) (cs := #[.slice a ms.length c]) rfl rfl rfl ?_
 intro B101 w102 hN103
 have hlB101 := hN_ge hN103 hb0
 have hb104 := low0 hb0 hN103.grw
 refine wpo_assign (v := .nilFunc) rfl rfl ?_
 refine wpo_nil ?_
 refine wpf_seq_region ?_
 refine wpo_makeFunc (vs := [.pointer (some ⟨B101, 0, none⟩)]) (args_cons rfl args_nil) rfl ?_
 refine wpo_assign (v := .func (.func 111) #[] #[.pointer (some ⟨B101, 0, none⟩)]) rfl rfl ?_
 refine wpo_nil ?_
 refine wpf_ret ?_
 refine ⟨.func (.func 111) #[] #[.pointer (some ⟨B101, 0, none⟩)], res1 rfl rfl, B101, rfl, hlB101, hN103.blk, hb104⟩
theorem rights_stops [Comp] (w : World) (B : Nat) (ms : List MTh) (a : Option Addr) (c : Nat) (ht : TabAt w a ms) (hlen : TabLen ms) (hn : ms.length ≤ 1048576) (hB : Blk w B 23 #[.slice a ms.length c]) :
    SeqStops Try.prog 111 #[.pointer (some ⟨B, 0, none⟩)] (fun x : Rt => #[.agg x.cells.toArray]) (Below w.heap.size) (fun xs => xs = allR ms) (fun pre => pre <+: allR ms) (allR ms).length w := by
 intro l J Jx W hW hJ hJx hY h0
 have hb0 := gob hW
 show CallsR Try.prog 111 #[.func (.yield l) #[] #[], .pointer (some ⟨B, 0, none⟩)] W _
 refine calls_of_wpf (n := 26) (R := fun v w' => (∃ xs, xs = allR ms ∧ J xs w') ∨ (∃ pre, pre <+: allR ms ∧ Jx pre w')) Try.func111 rfl Try.ntmps111 rfl ?_
 refine wpf_seq_region ?_
 refine wpo_load1 (v := .slice a ms.length c) ot_23 rfl ((hB.grown0 hb0).cell rfl) rfl ?_
 refine wpo_len (by kernel_rfl) rfl rfl ?_
 refine wpo_move (v := .int .i64 0) rfl rfl ?_
 refine wpo_nil ?_
 refine wpf_block ?_
 refine wpf_loopN (fun mm f' w' => ∃ (k : Nat), mm = ms.length - k ∧ k ≤ ms.length ∧ J (allR (ms.take k)) w' ∧ f' 9 = .int .i64 (k : Int) ∧ f' 0 = .func (.yield l) #[] #[] ∧ f' 7 = .slice a ms.length c ∧ f' 8 = .int .i64 (ms.length : Int) ∧ w.grownBy w' none) (ms.length - 0) ⟨0, rfl, (Nat.zero_le _), h0, rfl, rfl, rfl, rfl, hb0⟩ ?_
 rintro mm f101 w102 ⟨k, hm104, hk, hJk, e105, e106, e107, e108, hb103⟩
 refine wpf_seq_region ?_
 refine wpo_lss (q := decide ((k : Int) < (ms.length : Int))) e105 e108 rfl rfl ?_
 refine wpo_nil ?_
 refine wpf_seq ?_
 refine wpf_cond rfl (fun h109 => ?_) (fun h109 => ?_)
 ·
  have h110 := of_decide_eq_true h109
  refine wpf_skip ?_
  refine thn_n ?_
  refine wpf_seq ?_
  refine wpf_block ?_
  refine wpf_seq_region ?_
  obtain ⟨b113, q114, o115, ha116, ho117, hr118⟩ := SlAt.at (TabAt.low ht hb103).1 (map_get (mAt_get (show k < ms.length by omega)))
  have hle119 := TabLen.at hlen (mAt_get (show k < ms.length by omega))
  refine wpo_indexE es_23 e107 e105 ha116 ho117 (by omega) (by omega) rfl ?_
  refine wpo_loadn (vs := [.int .i64 ((mAt ms k).t.kind), .int .i64 ((mAt ms k).t.lab.s), .int .i64 ((mAt ms k).t.lab.v), .int .i64 ((mAt ms k).t.ve), .int .i64 ((mAt ms k).t.num), .slice ((mAt ms k).sa) ((mAt ms k).t.slots.length) ((mAt ms k).sc), .slice ((mAt ms k).qa) ((mAt ms k).t.queue.length) ((mAt ms k).qc), .int .i64 ((mAt ms k).t.to)]) rt_35 rfl rfl (range_sub hr118 0 8 rfl) rfl ?_
  refine wpo_alloc (cs := #[.int .i64 0, .int .i64 0, .int .i64 0, .int .i64 0, .int .i64 0, .slice none 0 0, .slice none 0 0, .int .i64 0]) zt_35 rfl rfl ?_
  intro B120 w121 hN122
  have hlB120 := hN_ge hN122 hb103
  have hb123 := low0 hb103 hN122.grw
  refine wpo_storen (vs := [.int .i64 ((mAt ms k).t.kind), .int .i64 ((mAt ms k).t.lab.s), .int .i64 ((mAt ms k).t.lab.v), .int .i64 ((mAt ms k).t.ve), .int .i64 ((mAt ms k).t.num), .slice ((mAt ms k).sa) ((mAt ms k).t.slots.length) ((mAt ms k).sc), .slice ((mAt ms k).qa) ((mAt ms k).t.queue.length) ((mAt ms k).qc), .int .i64 ((mAt ms k).t.to)]) (cs' := #[.int .i64 ((mAt ms k).t.kind), .int .i64 ((mAt ms k).t.lab.s), .int .i64 ((mAt ms k).t.lab.v), .int .i64 ((mAt ms k).t.ve), .int .i64 ((mAt ms k).t.num), .slice ((mAt ms k).sa) ((mAt ms k).t.slots.length) ((mAt ms k).sc), .slice ((mAt ms k).qa) ((mAt ms k).t.queue.length) ((mAt ms k).qc), .int .i64 ((mAt ms k).t.to)]) rt_35 rfl rfl rfl (by simp [Value.oneCell']) hN122.blk (Nat.le_of_ble_eq_true rfl) rfl ?_
  intro w124 hS125
  have hb126 := low1 hb123 hS125.grw (by omega)
  refine wpo_nil ?_
  refine wpf_seq_region ?_
  refine wpo_fieldAddr (o' := 5) fo_35_4 rfl rfl rfl ?_
  refine wpo_load1 (v := .slice ((mAt ms k).sa) ((mAt ms k).t.slots.length) ((mAt ms k).sc)) ot_32 rfl (hS125.blk.cell rfl) rfl ?_
  refine wpo_len (by kernel_rfl) rfl rfl ?_
  refine wpo_move (v := .int .i64 0) rfl rfl ?_
  refine wpo_nil ?_
  refine wpf_block ?_
  refine wpf_loopN (fun mm f' w' => ∃ (j : Nat), mm = (mAt ms k).t.slots.length - j ∧ j ≤ (mAt ms k).t.slots.length ∧ J (preR ms k j) w' ∧ f' 16 = .int .i64 (j : Int) ∧ f' 0 = .func (.yield l) #[] #[] ∧ f' 7 = .slice a ms.length c ∧ f' 8 = .int .i64 (ms.length : Int) ∧ f' 9 = .int .i64 (k : Int) ∧ f' 14 = .slice ((mAt ms k).sa) ((mAt ms k).t.slots.length) ((mAt ms k).sc) ∧ f' 15 = .int .i64 ((mAt ms k).t.slots.length : Int) ∧ w.grownBy w' none) ((mAt ms k).t.slots.length - 0) ⟨0, rfl, (Nat.zero_le _), (by rw [preR_zero]; exact (hJ _ _ _ none hJk (low1 hN122.grw hS125.grw (Nat.le_trans ((World.grownBy.refl _ none)).size hN122.ge)) (fun r e => by cases e))), rfl, e106, e107, e108, e105, rfl, rfl, hb126⟩ ?_
  rintro mm f127 w128 ⟨j, hm130, hj, hJj, e131, e132, e133, e134, e135, e136, e137, hb129⟩
  refine wpf_seq_region ?_
  refine wpo_lss (q := decide ((j : Int) < ((mAt ms k).t.slots.length : Int))) e131 e137 rfl rfl ?_
  refine wpo_nil ?_
  refine wpf_seq ?_
  refine wpf_cond rfl (fun h138 => ?_) (fun h138 => ?_)
  ·
   have h139 := of_decide_eq_true h138
   refine wpf_skip ?_
   refine thn_n ?_
   refine wpf_seq ?_
   refine wpf_block ?_
   refine wpf_seq_region ?_
   obtain ⟨b142, q143, o144, ha145, ho146, hr147⟩ := SlAt.at (TabAt.th (TabAt.low ht hb129) (mAt_get (show k < ms.length by omega))).1 (map_get (rAt_get (show j < (mAt ms k).t.slots.length by omega)))
   refine wpo_indexE es_32 e136 e131 ha145 ho146 (by omega) (by omega) rfl ?_
   refine wpo_loadn (vs := [.int .i64 ((rAt (mAt ms k).t.slots j).th), .int .i64 ((rAt (mAt ms k).t.slots j).ve), .bool ((rAt (mAt ms k).t.slots j).rd), .bool ((rAt (mAt ms k).t.slots j).wr), .bool ((rAt (mAt ms k).t.slots j).wk)]) rt_74 rfl rfl (range_sub hr147 0 5 rfl) rfl ?_
   refine wpo_alloc (cs := #[.int .i64 0, .int .i64 0, .bool false, .bool false, .bool false]) zt_74 rfl rfl ?_
   intro B148 w149 hN150
   have hlB148 := hN_ge hN150 hb129
   have hb151 := low0 hb129 hN150.grw
   refine wpo_storen (vs := [.int .i64 ((rAt (mAt ms k).t.slots j).th), .int .i64 ((rAt (mAt ms k).t.slots j).ve), .bool ((rAt (mAt ms k).t.slots j).rd), .bool ((rAt (mAt ms k).t.slots j).wr), .bool ((rAt (mAt ms k).t.slots j).wk)]) (cs' := #[.int .i64 ((rAt (mAt ms k).t.slots j).th), .int .i64 ((rAt (mAt ms k).t.slots j).ve), .bool ((rAt (mAt ms k).t.slots j).rd), .bool ((rAt (mAt ms k).t.slots j).wr), .bool ((rAt (mAt ms k).t.slots j).wk)]) rt_74 rfl rfl rfl (by simp [Value.oneCell']) hN150.blk (Nat.le_of_ble_eq_true rfl) rfl ?_
   intro w152 hS153
   have hb154 := low1 hb151 hS153.grw (by omega)
   refine wpo_nil ?_
   refine wpf_seq_region ?_
   refine wpo_move (v := .func (.yield l) #[] #[]) e132 rfl ?_
   refine wpo_loadn (vs := [.int .i64 ((rAt (mAt ms k).t.slots j).th), .int .i64 ((rAt (mAt ms k).t.slots j).ve), .bool ((rAt (mAt ms k).t.slots j).rd), .bool ((rAt (mAt ms k).t.slots j).wr), .bool ((rAt (mAt ms k).t.slots j).wk)]) rt_74 rfl rfl (hS153.blk.rangeL 0 5 rfl) rfl ?_
   refine wpo_yield rfl (vs := [.agg #[.int .i64 ((rAt (mAt ms k).t.slots j).th), .int .i64 ((rAt (mAt ms k).t.slots j).ve), .bool ((rAt (mAt ms k).t.slots j).rd), .bool ((rAt (mAt ms k).t.slots j).wr), .bool ((rAt (mAt ms k).t.slots j).wk)]]) (args_cons rfl args_nil) rfl (hY (preR ms k j) _ _ (hJ _ _ _ none hJj (low1 hN150.grw hS153.grw (Nat.le_trans ((World.grownBy.refl _ none)).size hN150.ge)) (fun r e => by cases e)) (preR_lt (by omega) (by omega))) ?_
   rintro _ w155 (⟨rfl, hJ157, hg156⟩ | ⟨rfl, hJx158⟩)
   ·
    have hb159 := grown_below hb154 hg156
    refine wpo_not (b' := false) rfl rfl rfl ?_
    refine wpo_nil ?_
    refine wpf_condf rfl rfl ?_
    refine wpf_skip ?_
    refine blk_n ?_
    refine thn_n ?_
    refine wpf_region ?_
    refine wpo_add (c := (j : Int) + 1) e131 rfl (by omega) (by omega) (by omega) rfl ?_
    refine wpo_move (v := .int .i64 ((j : Int) + 1)) rfl rfl ?_
    refine wpo_nil ?_
    refine thn_n ?_
    exact ⟨(mAt ms k).t.slots.length - (j + 1), by omega, (j + 1), rfl, (by omega), (by rw [← preR_snoc (by omega)]; exact hJ157), rfl, e132, e133, e134, e135, e136, e137, hb159⟩
   ·
    refine wpo_not (b' := true) rfl rfl rfl ?_
    refine wpo_nil ?_
    refine wpf_condt rfl rfl ?_
    refine wpf_ret ?_
    refine blk_r ?_
    refine thn_r ?_
    refine thn_r ?_
    refine blk_r ?_
    refine blk_r ?_
    refine thn_r ?_
    refine thn_r ?_
    refine blk_r ?_
    refine ⟨.tuple #[], res0 rfl, Or.inr ⟨_, preR_prefix (k := k) (j := j + 1) (by omega), ?_⟩⟩
    rw [← preR_snoc (k := k) (j := j) (by omega)]
    exact hJx158
  ·
   have h160 := of_decide_eq_false h138
   refine wpf_exit ?_
   refine thn_e ?_
   refine thn_e ?_
   refine blk_e ?_
   refine blk_n ?_
   refine thn_n ?_
   refine wpf_region ?_
   refine wpo_add (c := (k : Int) + 1) e135 rfl (by omega) (by omega) (by omega) rfl ?_
   refine wpo_move (v := .int .i64 ((k : Int) + 1)) rfl rfl ?_
   refine wpo_nil ?_
   refine thn_n ?_
   exact ⟨ms.length - (k + 1), by omega, (k + 1), rfl, (by omega), (by rw [← preR_next (j := j) (by omega) (by omega)]; exact hJj), rfl, e132, e133, e134, hb129⟩
 ·
  have h161 := of_decide_eq_false h109
  refine wpf_exit ?_
  refine thn_e ?_
  refine thn_e ?_
  refine blk_e ?_
  refine ⟨.tuple #[], res0 rfl, Or.inl ⟨_, rfl, ?_⟩⟩
  have kk := hJk
  rw [allR_take (by omega)] at kk
  exact kk
theorem TableOk_c [Comp] (w : World) (ms : List MTh) (a : Option Addr) (c : Nat) (ht : TabAt w a ms) (hlen : TabLen ms) (hn : ms.length ≤ 1048576) : CallsR Try.prog 37 #[.slice a ms.length c] w (fun v w' => v = .bool (tableOk (tabT ms)) ∧ w.grownBy w' none) := by
 refine callsA (n := 53) Try.func37 rfl Try.ntmps37 rfl ?_
 intro J b cs hEnd
 have hb0 := World.grownBy.refl w none
 refine wpa_seq_region hEnd ?_
 refine wpo_box (v := .slice a ms.length c) (cs := #[.slice a ms.length c]) rfl rfl rfl ?_
 intro B101 w102 hN103
 have hlB101 := hN_ge hN103 hb0
 have hb104 := low0 hb0 hN103.grw
 refine wpo_alloc (cs := #[.bool false]) zt_4 rfl rfl ?_
 intro B105 w106 hN107
 have hlB105 := hN_ge hN107 hb104
 have lt_B101_B105 := hN_gtl hN107 (hN103.blk).lt
 have hb108 := low0 hb104 hN107.grw
 refine wpo_nil ?_
 refine wpa_seq hEnd ?_
 refine wpf_seq_region ?_
 have k109 := (hN103.blk.grown0 hN107.grw)
 refine wpo_load1 (v := .slice a ms.length c) ot_23 rfl (k109.cell rfl) rfl ?_
 refine wpo_len (by kernel_rfl) rfl rfl ?_
 refine wpo_call (vs := [.int .i64 (ms.length : Int), .int .i64 1, .int .i64 8]) gf_50 (args_cons rfl (args_cons rfl (args_cons rfl args_nil))) rfl (inRange_c (ms.length : Int) 1 8 _) ?_
 rintro _ w110 ⟨rfl, hg111⟩
 have hb112 := low0 hb108 hg111
 refine wpo_not (b' := !inR (ms.length : Int) 1 8) rfl rfl rfl ?_
 refine wpo_nil ?_
 refine wpf_cond rfl (fun h113 => ?_) (fun h113 => ?_)
 ·
  have h114 := nt_t h113
  refine wpf_seq_region ?_
  have k115 := (hN107.blk.grown0 hg111)
  refine wpo_store1 (v := .bool false) (cs' := #[.bool false]) ot_4 rfl rfl rfl k115 (Nat.le_of_ble_eq_true rfl) rfl ?_
  intro w116 hS117
  have hb118 := low1 hb112 hS117.grw (by omega)
  refine wpo_nil ?_
  refine wpf_ret ?_
  refine thn_r ?_
  exact endA (resC rfl (resCell_mk1 ot_4 rfl (hS117.blk.cell rfl))) ⟨congrArg Value.bool (tabi_len h114).symm, hb118⟩
 ·
  have h119 := nt_f h113
  have hr120 := inR_iff.1 h119
  refine wpf_skip ?_
  refine thn_n ?_
  refine wpa_seq hEnd ?_
  refine wpf_seq_region ?_
  have k121 := (k109.grown0 hg111)
  refine wpo_load1 (v := .slice a ms.length c) ot_23 rfl (k121.cell rfl) rfl ?_
  refine wpo_len (by kernel_rfl) rfl rfl ?_
  refine wpo_move (v := .int .i64 0) rfl rfl ?_
  refine wpo_nil ?_
  refine wpf_block ?_
  have k122 := (hN107.blk.grown0 hg111)
  refine wpf_loopN (fun mm f' w' => ∃ (k : Nat), mm = ms.length - k ∧ k ≤ ms.length ∧ (((tabT ms).take k).all (headOk (tabT ms))) = true ∧ f' 12 = .int .i64 (k : Int) ∧ f' 0 = .slice a ms.length c ∧ f' 1 = .pointer (some ⟨B101, 0, none⟩) ∧ f' 2 = .pointer (some ⟨B105, 0, none⟩) ∧ f' 10 = .slice a ms.length c ∧ f' 11 = .int .i64 (ms.length : Int) ∧ w.grownBy w' none ∧ Blk w' B101 23 #[.slice a ms.length c] ∧ Blk w' B105 4 #[.bool false]) (ms.length - 0) ⟨0, rfl, (Nat.zero_le _), rfl, rfl, rfl, rfl, rfl, rfl, rfl, hb112, k121, k122⟩ ?_
  rintro mm f123 w124 ⟨k, hm126, hk, hall, e127, e128, e129, e130, e131, e132, hb125, k133, k134⟩
  refine wpf_seq_region ?_
  refine wpo_lss (q := decide ((k : Int) < (ms.length : Int))) e127 e132 rfl rfl ?_
  refine wpo_nil ?_
  refine wpf_seq ?_
  refine wpf_cond rfl (fun h135 => ?_) (fun h135 => ?_)
  ·
   have h136 := of_decide_eq_true h135
   refine wpf_skip ?_
   refine thn_n ?_
   refine wpf_seq ?_
   refine wpf_block ?_
   refine wpf_seq_region ?_
   obtain ⟨b139, q140, o141, ha142, ho143, hr144⟩ := SlAt.at (TabAt.low ht hb125).1 (map_get (mAt_get (show k < ms.length by omega)))
   have hle145 := TabLen.at hlen (mAt_get (show k < ms.length by omega))
   refine wpo_indexE es_23 e131 e127 ha142 ho143 (by omega) (by omega) rfl ?_
   refine wpo_loadn (vs := [.int .i64 ((mAt ms k).t.kind), .int .i64 ((mAt ms k).t.lab.s), .int .i64 ((mAt ms k).t.lab.v), .int .i64 ((mAt ms k).t.ve), .int .i64 ((mAt ms k).t.num), .slice ((mAt ms k).sa) ((mAt ms k).t.slots.length) ((mAt ms k).sc), .slice ((mAt ms k).qa) ((mAt ms k).t.queue.length) ((mAt ms k).qc), .int .i64 ((mAt ms k).t.to)]) rt_35 rfl rfl (range_sub hr144 0 8 rfl) rfl ?_
   refine wpo_alloc (cs := #[.int .i64 0, .int .i64 0, .int .i64 0, .int .i64 0, .int .i64 0, .slice none 0 0, .slice none 0 0, .int .i64 0]) zt_35 rfl rfl ?_
   intro B146 w147 hN148
   have hlB146 := hN_ge hN148 hb125
   have lt_B101_B146 := hN_gtl hN148 (k133).lt
   have lt_B105_B146 := hN_gtl hN148 (k134).lt
   have hb149 := low0 hb125 hN148.grw
   refine wpo_storen (vs := [.int .i64 ((mAt ms k).t.kind), .int .i64 ((mAt ms k).t.lab.s), .int .i64 ((mAt ms k).t.lab.v), .int .i64 ((mAt ms k).t.ve), .int .i64 ((mAt ms k).t.num), .slice ((mAt ms k).sa) ((mAt ms k).t.slots.length) ((mAt ms k).sc), .slice ((mAt ms k).qa) ((mAt ms k).t.queue.length) ((mAt ms k).qc), .int .i64 ((mAt ms k).t.to)]) (cs' := #[.int .i64 ((mAt ms k).t.kind), .int .i64 ((mAt ms k).t.lab.s), .int .i64 ((mAt ms k).t.lab.v), .int .i64 ((mAt ms k).t.ve), .int .i64 ((mAt ms k).t.num), .slice ((mAt ms k).sa) ((mAt ms k).t.slots.length) ((mAt ms k).sc), .slice ((mAt ms k).qa) ((mAt ms k).t.queue.length) ((mAt ms k).qc), .int .i64 ((mAt ms k).t.to)]) rt_35 rfl rfl rfl (by simp [Value.oneCell']) hN148.blk (Nat.le_of_ble_eq_true rfl) rfl ?_
   intro w150 hS151
   have hb152 := low1 hb149 hS151.grw (by omega)
   refine wpo_nil ?_
   refine wpf_seq ?_
   refine wpf_seq_region ?_
   refine wpo_loadn (vs := [.int .i64 ((mAt ms k).t.kind), .int .i64 ((mAt ms k).t.lab.s), .int .i64 ((mAt ms k).t.lab.v), .int .i64 ((mAt ms k).t.ve), .int .i64 ((mAt ms k).t.num), .slice ((mAt ms k).sa) ((mAt ms k).t.slots.length) ((mAt ms k).sc), .slice ((mAt ms k).qa) ((mAt ms k).t.queue.length) ((mAt ms k).qc), .int .i64 ((mAt ms k).t.to)]) rt_35 rfl rfl (hS151.blk.rangeL 0 8 rfl) rfl ?_
   refine wpo_call (vs := [.agg #[.int .i64 ((mAt ms k).t.kind), .int .i64 ((mAt ms k).t.lab.s), .int .i64 ((mAt ms k).t.lab.v), .int .i64 ((mAt ms k).t.ve), .int .i64 ((mAt ms k).t.num), .slice ((mAt ms k).sa) ((mAt ms k).t.slots.length) ((mAt ms k).sc), .slice ((mAt ms k).qa) ((mAt ms k).t.queue.length) ((mAt ms k).qc), .int .i64 ((mAt ms k).t.to)]]) gf_20 (args_cons rfl args_nil) rfl (ThingOk_c (mAt ms k) _ (TabAt.th (TabAt.low ht hb152) (mAt_get (show k < ms.length by omega))).1 (TabAt.th (TabAt.low ht hb152) (mAt_get (show k < ms.length by omega))).2.1 (by first | omega | exact Nat.le_of_ble_eq_true rfl | (simp only [List.length_nil, List.length_cons, List.length_append, List.length_replicate]; omega)) (by first | omega | exact Nat.le_of_ble_eq_true rfl | (simp only [List.length_nil, List.length_cons, List.length_append, List.length_replicate]; omega))) ?_
   rintro _ w153 ⟨rfl, hg154⟩
   have hb155 := low0 hb152 hg154
   refine wpo_not (b' := !thingOk (mAt ms k).t) rfl rfl rfl ?_
   refine wpo_nil ?_
   refine wpf_cond rfl (fun h156 => ?_) (fun h156 => ?_)
   ·
    have h157 := nt_t h156
    refine wpf_seq_region ?_
    have k158 := (((k134.grown0 hN148.grw).gn hS151.grw).grown0 hg154)
    refine wpo_store1 (v := .bool false) (cs' := #[.bool false]) ot_4 e130 rfl rfl k158 (Nat.le_of_ble_eq_true rfl) rfl ?_
    intro w159 hS160
    have hb161 := low1 hb155 hS160.grw (by omega)
    refine wpo_nil ?_
    refine wpf_ret ?_
    refine thn_r ?_
    refine blk_r ?_
    refine thn_r ?_
    refine thn_r ?_
    refine blk_r ?_
    refine thn_r ?_
    exact endA (resC rfl (resCell_mk1 ot_4 e130 (hS160.blk.cell rfl))) ⟨congrArg Value.bool (tabi_no (k := k) (by omega) (by unfold headOk; rw [h157]; rfl)).symm, hb161⟩
   ·
    have h162 := nt_f h156
    refine wpf_skip ?_
    refine thn_n ?_
    refine wpf_seq_region_mid (fun f' w' => (f' 0 = .slice a ms.length c ∧ f' 1 = .pointer (some ⟨B101, 0, none⟩) ∧ f' 2 = .pointer (some ⟨B105, 0, none⟩) ∧ f' 10 = .slice a ms.length c ∧ f' 11 = .int .i64 (ms.length : Int) ∧ f' 12 = .int .i64 (k : Int) ∧ f' 28 = .bool ((decide ((mAt ms k).t.kind = 5)) && (!kindAt (tabT ms) ((mAt ms k).t.to) 1))) ∧ w153.grownBy w' none) ?_ ?_
    ·
     refine wpo_fieldAddr (o' := 0) fo_35_0 rfl rfl rfl ?_
     have k169 := (hS151.blk.grown0 hg154)
     refine wpo_load1 (v := .int .i64 ((mAt ms k).t.kind)) ot_3 rfl (k169.cell rfl) rfl ?_
     refine wpo_eql (q := decide ((mAt ms k).t.kind = 5)) rfl rfl rfl rfl ?_
     refine wpo_move (v := .bool (decide ((mAt ms k).t.kind = 5))) rfl rfl ?_
     rcases bcases (decide ((mAt ms k).t.kind = 5)) with h170 | h170
     ·
      have hgt171 := th_gate h162 h170
      have h172 := of_decide_eq_true h170
      refine wpo_run rfl rfl rfl h170 ?_
      have k173 := (((k133.grown0 hN148.grw).gn hS151.grw).grown0 hg154)
      refine wpo_load1 (v := .slice a ms.length c) ot_23 e129 (k173.cell rfl) rfl ?_
      refine wpo_run rfl rfl rfl h170 ?_
      refine wpo_fieldAddr (o' := 7) fo_35_6 rfl rfl rfl ?_
      refine wpo_run rfl rfl rfl h170 ?_
      refine wpo_load1 (v := .int .i64 ((mAt ms k).t.to)) ot_3 rfl (k169.cell rfl) rfl ?_
      refine wpo_run rfl rfl rfl h170 ?_
      refine wpo_call (vs := [.slice a ms.length c, .int .i64 ((mAt ms k).t.to), .int .i64 1]) gf_71 (args_cons rfl (args_cons rfl (args_cons rfl args_nil))) rfl (kindAt_c ((mAt ms k).t.to) 1 (by omega) _ ms _ _ (TabAt.low ht hb155) hlen (by omega)) ?_
      rintro _ w174 ⟨rfl, hg175⟩
      have hb176 := low0 hb155 hg175
      refine wpo_run rfl rfl rfl h170 ?_
      refine wpo_not (b' := !kindAt (tabT ms) ((mAt ms k).t.to) 1) rfl rfl rfl ?_
      refine wpo_pickt (v := .bool (!kindAt (tabT ms) ((mAt ms k).t.to) 1)) rfl h170 rfl rfl ?_
      exact wpo_nil ⟨⟨e128, e129, e130, e131, e132, e127, (congrArg Value.bool (by first | (simp only [h113, h119, h135, h156, h162, h170, b0, b1, b2, b3, b4, b5, b6, b7, b8, b9]; done) | simp [h113, h119, h135, h156, h162, h170]))⟩, hg175⟩
     ·
      have h177 := of_decide_eq_false h170
      iterate 5 refine wpo_pass rfl rfl rfl h170 rfl ?_
      refine wpo_pickf (v := .bool false) rfl h170 rfl rfl ?_
      exact wpo_nil ⟨⟨e128, e129, e130, e131, e132, e127, (congrArg Value.bool (by first | (simp only [h113, h119, h135, h156, h162, h170, b0, b1, b2, b3, b4, b5, b6, b7, b8, b9]; done) | simp [h113, h119, h135, h156, h162, h170]))⟩, (World.grownBy.refl _ _)⟩
    ·
     rintro f178 w179 ⟨⟨e180, e181, e182, e183, e184, e185, e186⟩, hg187⟩
     have hb188 := low0 hb155 hg187
     refine wpf_cond e186 (fun h189 => ?_) (fun h189 => ?_)
     ·
      have h190 := and_l h189
      have hgt191 := th_gate h162 h190
      have h192 := of_decide_eq_true h190
      have h193 := and_r h189
      have h194 := nt_t h193
      refine wpf_seq_region ?_
      have k195 := ((((k134.grown0 hN148.grw).gn hS151.grw).grown0 hg154).grown0 hg187)
      refine wpo_store1 (v := .bool false) (cs' := #[.bool false]) ot_4 e182 rfl rfl k195 (Nat.le_of_ble_eq_true rfl) rfl ?_
      intro w196 hS197
      have hb198 := low1 hb188 hS197.grw (by omega)
      refine wpo_nil ?_
      refine wpf_ret ?_
      refine blk_r ?_
      refine thn_r ?_
      refine thn_r ?_
      refine blk_r ?_
      refine thn_r ?_
      exact endA (resC rfl (resCell_mk1 ot_4 e182 (hS197.blk.cell rfl))) ⟨congrArg Value.bool (tabi_no (k := k) (by omega) (by unfold headOk; rw [nt_t (gate_i.symm.trans h189), Bool.and_false])).symm, hb198⟩
     ·
      refine wpf_skip ?_
      refine blk_n ?_
      refine thn_n ?_
      refine wpf_region ?_
      refine wpo_add (c := (k : Int) + 1) e185 rfl (by omega) (by omega) (by omega) rfl ?_
      refine wpo_move (v := .int .i64 ((k : Int) + 1)) rfl rfl ?_
      refine wpo_nil ?_
      refine thn_n ?_
      have k199 := ((((k133.grown0 hN148.grw).gn hS151.grw).grown0 hg154).grown0 hg187)
      have k200 := ((((k134.grown0 hN148.grw).gn hS151.grw).grown0 hg154).grown0 hg187)
      exact ⟨ms.length - (k + 1), by omega, (k + 1), rfl, (by omega), (take_all_succ (p := headOk (tabT ms)) hall (tab_at (by omega)) (by unfold headOk; rw [h162, nt_f (gate_i.symm.trans h189)]; rfl)), rfl, e180, e181, e182, e183, e184, hb188, k199, k200⟩
  ·
   have h201 := of_decide_eq_false h135
   refine wpf_exit ?_
   refine thn_e ?_
   refine thn_e ?_
   refine blk_e ?_
   refine thn_n ?_
   refine wpa_seqT hEnd ?_
   refine wpa_seq_region hEnd ?_
   refine wpo_load1 (v := .slice a ms.length c) ot_23 e129 (k133.cell rfl) rfl ?_
   refine wpo_call (vs := [.slice a ms.length c]) gf_72 (args_cons rfl args_nil) rfl (allRights_c _ ms _ _) ?_
   rintro _ w206 ⟨B202, rfl, hge203, k204, hg205⟩
   have hb207 := low0 hb125 hg205
   have hlB202 := Nat.le_trans hb125.size hge203
   have lt_B101_B202 := Nat.lt_of_lt_of_le (k133).lt hge203
   have lt_B105_B202 := Nat.lt_of_lt_of_le (k134).lt hge203
   refine wpo_nil ?_
   have k208 := (k133.grown0 hg205)
   have k209 := (k134.grown0 hg205)
   refine wpa_gen (fun f' => f' 1 = .pointer (some ⟨B101, 0, none⟩) ∧ f' 2 = .pointer (some ⟨B105, 0, none⟩) ∧ f' 31 = .func (.func 111) #[] #[.pointer (some ⟨B202, 0, none⟩)]) ⟨e129, e130, rfl⟩ ?_
   rintro fT ⟨e1, e2, e3⟩ a0 ha
   obtain ⟨tm, df⟩ := a0
   obtain rfl : df = [] := ha.defers
   have hlb2 : B105 < w206.heap.size := (k209).lt
   refine hEnd.closed.move rfl (fun _ => stepG_block) ?_
   refine range_own hEnd.closed hEnd.early hEnd.ro (n := 53) (encs := fun x : Rt => .agg x.cells.toArray) ha e3 gf_111 rfl (rights_stops w206 B202 ms a c (TabAt.low ht hb207) hlen hn k204) (Below.refl _ _) (Nat.le_refl _) (fun pre W => w.grownBy W none ∧ Blk W B101 23 #[.slice a ms.length c] ∧ Blk W B105 4 #[.bool false] ∧ pre.all (rightTo (tabT ms)) = true ∧ w206.heap.size ≤ W.heap.size) (fun pre W => w.grownBy W none ∧ Blk W B105 4 #[.bool false] ∧ pre.all (rightTo (tabT ms)) = false) (fun s A B row hs hg hr => ⟨own_grown hs.1 hg hb207.size hr, own_blk hs.2.1 hg hr, own_blk hs.2.2.1 hg hr, hs.2.2.2.1, Nat.le_trans hs.2.2.2.2 hg.size⟩) (fun s A B row hs hg hr => ⟨own_grown hs.1 hg hb207.size hr, own_blk hs.2.1 hg hr, hs.2.2⟩) ⟨hb207, k208, k209, rfl, Nat.le_refl _⟩ (fun x f' W => ∃ Bx : Nat, Blk W Bx 74 x.cells.toArray ∧ f' 5 = .pointer (some ⟨Bx, 0, none⟩) ∧ f' 1 = .pointer (some ⟨B101, 0, none⟩) ∧ f' 2 = .pointer (some ⟨B105, 0, none⟩)) (fun f' x A B row hs hg hr => by obtain ⟨Bx, h1, h2⟩ := hs; exact ⟨Bx, own_blk h1 hg hr, h2⟩) ?_ ?_ ?_ ?_
   ·
    intro pre x W hlW hi
    refine wpf_region ?_
    refine wpo_alloc (cs := #[.int .i64 0, .int .i64 0, .bool false, .bool false, .bool false]) zt_74 rfl rfl ?_
    intro B210 w211 hN212
    have hlB210 := hN_ge hN212 hi.1
    have hb213 := low0 hi.1 hN212.grw
    refine wpo_storen (vs := [.int .i64 x.th, .int .i64 x.ve, .bool x.rd, .bool x.wr, .bool x.wk]) (cs' := #[.int .i64 x.th, .int .i64 x.ve, .bool x.rd, .bool x.wr, .bool x.wk]) rt_74 rfl rfl rfl (by simp [Value.oneCell']) hN212.blk (Nat.le_of_ble_eq_true rfl) rfl ?_
    intro w214 hS215
    have hb216 := low1 hb213 hS215.grw (by omega)
    refine wpo_nil ?_
    exact ⟨rfl, (low1 hN212.grw hS215.grw (Nat.le_trans ((World.grownBy.refl _ none)).size hN212.ge)), B210, hS215.blk, rfl, e1, e2⟩
   ·
    rintro pre x f' W hlW hi ⟨Bx, hbx, h5, h1, h2⟩ hlt
    refine Wpf.mono (Q := (fun e f'' w' => (e = .normal ∧ W.grownBy w' none ∧ rightTo (tabT ms) x = true) ∨ (e = .ret ∧ W.grownBy w' (some B105) ∧ w.grownBy w' none ∧ Blk w' B105 4 #[.bool false] ∧ rightTo (tabT ms) x = false))) ?_ ?_
    ·
     refine wpf_block ?_
     refine wpf_seq ?_
     refine wpf_seq_region ?_
     refine wpo_fieldAddr (o' := 0) fo_74_0 h5 rfl rfl ?_
     refine wpo_load1 (v := .int .i64 x.th) ot_3 rfl (hbx.cell rfl) rfl ?_
     refine wpo_eql (q := decide (x.th = 0)) rfl rfl rfl rfl ?_
     refine wpo_nil ?_
     refine wpf_cond rfl (fun h217 => ?_) (fun h217 => ?_)
     ·
      have h218 := of_decide_eq_true h217
      refine wpf_exit ?_
      refine thn_e ?_
      refine blk_e ?_
      exact Or.inl ⟨rfl, (World.grownBy.refl _ _), rightTo_z h217⟩
     ·
      have h219 := of_decide_eq_false h217
      refine wpf_skip ?_
      refine thn_n ?_
      refine wpf_seq_mid (fun f' w' => (f' 2 = .pointer (some ⟨B105, 0, none⟩) ∧ f' 52 = .bool ((!inR x.th 1 (ms.length : Int)) || (decide ((mAt ms ((x.th - 1).toNat)).t.ve < x.ve)))) ∧ W.grownBy w' none) ?_ ?_
      ·
       rcases bcases (!inR x.th 1 (ms.length : Int)) with h240 | h240
       ·
        have h241 := nt_t h240
        refine wpf_draw (m := 15) (vals := [(36, .slice a ms.length c), (37, .pointer (some ⟨Bx, 0, none⟩)), (38, .int .i64 x.th), (39, .bool (inR x.th 1 (ms.length : Int))), (40, .bool (!inR x.th 1 (ms.length : Int))), (41, .bool (!inR x.th 1 (ms.length : Int))), (42, undef), (43, undef), (44, undef), (45, undef), (46, undef), (47, undef), (48, undef), (49, undef), (50, undef)]) (fun w' => W.grownBy w' none) mixed_ (by kernel_rfl) (grown_drew _) ?_ ?_
        ·
         refine yll_cons rfl (fun w251 hi252 => ?_) ?_
         ·
          have hb253 := low0 hi.1 hi252
          have k254 := (hi.2.1.grown0 hi252)
          refine wpo_load1 (v := .slice a ms.length c) ot_23 h1 (k254.cell rfl) rfl ?_
          exact wpo_nil ⟨rfl, hi252⟩
         refine yll_cons rfl (fun w255 hi256 => ?_) ?_
         ·
          have hb257 := low0 hi.1 hi256
          refine wpo_fieldAddr (o' := 0) fo_74_0 h5 rfl rfl ?_
          exact wpo_nil ⟨rfl, hi256⟩
         refine yll_cons rfl (fun w258 hi259 => ?_) ?_
         ·
          have hb260 := low0 hi.1 hi259
          have k261 := (hbx.grown0 hi259)
          refine wpo_load1 (v := .int .i64 x.th) ot_3 rfl (k261.cell rfl) rfl ?_
          exact wpo_nil ⟨rfl, hi259⟩
         refine yll_cons rfl (fun w262 hi263 => ?_) ?_
         ·
          have hb264 := low0 hi.1 hi263
          refine wpo_call (vs := [.slice a ms.length c, .int .i64 x.th]) gf_56 (args_cons rfl (args_cons rfl args_nil)) rfl (thingExists_c x.th _ _ _ _) ?_
          rintro _ w265 ⟨rfl, hg266⟩
          have hb267 := low0 hb264 hg266
          exact wpo_nil ⟨rfl, (grown_trans hi263 hg266)⟩
         refine yll_cons rfl (fun w268 hi269 => ?_) ?_
         ·
          have hb270 := low0 hi.1 hi269
          refine wpo_not (b' := !inR x.th 1 (ms.length : Int)) rfl rfl rfl ?_
          exact wpo_nil ⟨rfl, hi269⟩
         refine yll_cons rfl (fun w271 hi272 => ?_) ?_
         ·
          have hb273 := low0 hi.1 hi272
          refine wpo_move (v := .bool (!inR x.th 1 (ms.length : Int))) rfl rfl ?_
          exact wpo_nil ⟨rfl, hi272⟩
         refine yll_cons rfl (fun w274 hi275 => ?_) ?_
         ·
          have hb276 := low0 hi.1 hi275
          refine wpo_pass rfl rfl rfl h240 rfl ?_
          exact wpo_nil ⟨rfl, hi275⟩
         refine yll_cons rfl (fun w277 hi278 => ?_) ?_
         ·
          have hb279 := low0 hi.1 hi278
          refine wpo_pass rfl rfl rfl h240 rfl ?_
          exact wpo_nil ⟨rfl, hi278⟩
         refine yll_cons rfl (fun w280 hi281 => ?_) ?_
         ·
          have hb282 := low0 hi.1 hi281
          refine wpo_pass rfl rfl rfl h240 rfl ?_
          exact wpo_nil ⟨rfl, hi281⟩
         refine yll_cons rfl (fun w283 hi284 => ?_) ?_
         ·
          have hb285 := low0 hi.1 hi284
          refine wpo_pass rfl rfl rfl h240 rfl ?_
          exact wpo_nil ⟨rfl, hi284⟩
         refine yll_cons rfl (fun w286 hi287 => ?_) ?_
         ·
          have hb288 := low0 hi.1 hi287
          refine wpo_pass rfl rfl rfl h240 rfl ?_
          exact wpo_nil ⟨rfl, hi287⟩
         refine yll_cons rfl (fun w289 hi290 => ?_) ?_
         ·
          have hb291 := low0 hi.1 hi290
          refine wpo_pass rfl rfl rfl h240 rfl ?_
          exact wpo_nil ⟨rfl, hi290⟩
         refine yll_cons rfl (fun w292 hi293 => ?_) ?_
         ·
          have hb294 := low0 hi.1 hi293
          refine wpo_pass rfl rfl rfl h240 rfl ?_
          exact wpo_nil ⟨rfl, hi293⟩
         refine yll_cons rfl (fun w295 hi296 => ?_) ?_
         ·
          have hb297 := low0 hi.1 hi296
          refine wpo_pass rfl rfl rfl h240 rfl ?_
          exact wpo_nil ⟨rfl, hi296⟩
         refine yll_cons rfl (fun w298 hi299 => ?_) ?_
         ·
          have hb300 := low0 hi.1 hi299
          refine wpo_pass rfl rfl rfl h240 rfl ?_
          exact wpo_nil ⟨rfl, hi299⟩
         exact yll_nil
        ·
         intro w301 hi302
         have hb303 := low0 hi.1 hi302
         refine wpo_pass rfl rfl rfl h240 rfl ?_
         refine wpo_pickt (v := .bool true) rfl h240 rfl rfl ?_
         exact wpo_nil (thn_n ⟨⟨h2, (congrArg Value.bool (by first | (simp only [h217, h240, h241, b0, b1, b2, b3, b4, b5, b6, b7, b8, b9]; done) | simp [h217, h240, h241]))⟩, hi302⟩)
       ·
        have h304 := nt_f h240
        have hr305 := inR_iff.1 h304
        obtain ⟨b327, q328, o329, ha330, ho331, hr332⟩ := SlAt.at (TabAt.low ht hi.1).1 (map_get (mAt_get (show (x.th - 1).toNat < ms.length by omega)))
        have hle333 := TabLen.at hlen (mAt_get (show (x.th - 1).toNat < ms.length by omega))
        refine wpf_draw (m := 15) (vals := [(36, .slice a ms.length c), (37, .pointer (some ⟨Bx, 0, none⟩)), (38, .int .i64 x.th), (39, .bool (inR x.th 1 (ms.length : Int))), (40, .bool (!inR x.th 1 (ms.length : Int))), (41, .bool (!inR x.th 1 (ms.length : Int))), (42, .pointer (some ⟨Bx, 1, none⟩)), (43, .int .i64 x.ve), (44, .slice a ms.length c), (45, .pointer (some ⟨Bx, 0, none⟩)), (46, .int .i64 x.th), (47, .int .i64 (x.th - 1)), (48, .pointer (some ⟨b327, o329, none⟩)), (49, .pointer (some ⟨b327, o329 + 3, none⟩)), (50, .int .i64 ((mAt ms ((x.th - 1).toNat)).t.ve))]) (fun w' => W.grownBy w' none) mixed_ (by kernel_rfl) (grown_drew _) ?_ ?_
        ·
         refine yll_cons rfl (fun w339 hi340 => ?_) ?_
         ·
          have hb341 := low0 hi.1 hi340
          have k342 := (hi.2.1.grown0 hi340)
          refine wpo_load1 (v := .slice a ms.length c) ot_23 h1 (k342.cell rfl) rfl ?_
          exact wpo_nil ⟨rfl, hi340⟩
         refine yll_cons rfl (fun w343 hi344 => ?_) ?_
         ·
          have hb345 := low0 hi.1 hi344
          refine wpo_fieldAddr (o' := 0) fo_74_0 h5 rfl rfl ?_
          exact wpo_nil ⟨rfl, hi344⟩
         refine yll_cons rfl (fun w346 hi347 => ?_) ?_
         ·
          have hb348 := low0 hi.1 hi347
          have k349 := (hbx.grown0 hi347)
          refine wpo_load1 (v := .int .i64 x.th) ot_3 rfl (k349.cell rfl) rfl ?_
          exact wpo_nil ⟨rfl, hi347⟩
         refine yll_cons rfl (fun w350 hi351 => ?_) ?_
         ·
          have hb352 := low0 hi.1 hi351
          refine wpo_call (vs := [.slice a ms.length c, .int .i64 x.th]) gf_56 (args_cons rfl (args_cons rfl args_nil)) rfl (thingExists_c x.th _ _ _ _) ?_
          rintro _ w353 ⟨rfl, hg354⟩
          have hb355 := low0 hb352 hg354
          exact wpo_nil ⟨rfl, (grown_trans hi351 hg354)⟩
         refine yll_cons rfl (fun w356 hi357 => ?_) ?_
         ·
          have hb358 := low0 hi.1 hi357
          refine wpo_not (b' := !inR x.th 1 (ms.length : Int)) rfl rfl rfl ?_
          exact wpo_nil ⟨rfl, hi357⟩
         refine yll_cons rfl (fun w359 hi360 => ?_) ?_
         ·
          have hb361 := low0 hi.1 hi360
          refine wpo_move (v := .bool (!inR x.th 1 (ms.length : Int))) rfl rfl ?_
          exact wpo_nil ⟨rfl, hi360⟩
         refine yll_cons rfl (fun w362 hi363 => ?_) ?_
         ·
          have hb364 := low0 hi.1 hi363
          refine wpo_run rfl rfl rfl h240 ?_
          refine wpo_fieldAddr (o' := 1) fo_74_1 h5 rfl rfl ?_
          exact wpo_nil ⟨rfl, hi363⟩
         refine yll_cons rfl (fun w365 hi366 => ?_) ?_
         ·
          have hb367 := low0 hi.1 hi366
          refine wpo_run rfl rfl rfl h240 ?_
          have k368 := (hbx.grown0 hi366)
          refine wpo_load1 (v := .int .i64 x.ve) ot_3 rfl (k368.cell rfl) rfl ?_
          exact wpo_nil ⟨rfl, hi366⟩
         refine yll_cons rfl (fun w369 hi370 => ?_) ?_
         ·
          have hb371 := low0 hi.1 hi370
          refine wpo_run rfl rfl rfl h240 ?_
          have k372 := (hi.2.1.grown0 hi370)
          refine wpo_load1 (v := .slice a ms.length c) ot_23 h1 (k372.cell rfl) rfl ?_
          exact wpo_nil ⟨rfl, hi370⟩
         refine yll_cons rfl (fun w373 hi374 => ?_) ?_
         ·
          have hb375 := low0 hi.1 hi374
          refine wpo_run rfl rfl rfl h240 ?_
          refine wpo_fieldAddr (o' := 0) fo_74_0 h5 rfl rfl ?_
          exact wpo_nil ⟨rfl, hi374⟩
         refine yll_cons rfl (fun w376 hi377 => ?_) ?_
         ·
          have hb378 := low0 hi.1 hi377
          refine wpo_run rfl rfl rfl h240 ?_
          have k379 := (hbx.grown0 hi377)
          refine wpo_load1 (v := .int .i64 x.th) ot_3 rfl (k379.cell rfl) rfl ?_
          exact wpo_nil ⟨rfl, hi377⟩
         refine yll_cons rfl (fun w380 hi381 => ?_) ?_
         ·
          have hb382 := low0 hi.1 hi381
          refine wpo_run rfl rfl rfl h240 ?_
          refine wpo_sub (c := x.th - 1) rfl rfl (by omega) (by omega) (by omega) rfl ?_
          exact wpo_nil ⟨rfl, hi381⟩
         refine yll_cons rfl (fun w383 hi384 => ?_) ?_
         ·
          have hb385 := low0 hi.1 hi384
          refine wpo_run rfl rfl rfl h240 ?_
          refine wpo_indexE es_23 rfl rfl ha330 ho331 (by omega) (by omega) rfl ?_
          exact wpo_nil ⟨rfl, hi384⟩
         refine yll_cons rfl (fun w386 hi387 => ?_) ?_
         ·
          have hb388 := low0 hi.1 hi387
          refine wpo_run rfl rfl rfl h240 ?_
          refine wpo_fieldAddr (o' := o329 + 3) fo_35_2 rfl rfl rfl ?_
          exact wpo_nil ⟨rfl, hi387⟩
         refine yll_cons rfl (fun w389 hi390 => ?_) ?_
         ·
          have hb391 := low0 hi.1 hi390
          refine wpo_run rfl rfl rfl h240 ?_
          refine wpo_load1 (v := .int .i64 ((mAt ms ((x.th - 1).toNat)).t.ve)) ot_3 rfl ((range_low hr332 hi390) 3 _ rfl) rfl ?_
          exact wpo_nil ⟨rfl, hi390⟩
         exact yll_nil
        ·
         intro w392 hi393
         have hb394 := low0 hi.1 hi393
         refine wpo_run rfl rfl rfl h240 ?_
         refine wpo_gtr (q := decide ((mAt ms ((x.th - 1).toNat)).t.ve < x.ve)) rfl rfl rfl rfl ?_
         refine wpo_pickf (v := .bool (decide ((mAt ms ((x.th - 1).toNat)).t.ve < x.ve))) rfl h240 rfl rfl ?_
         exact wpo_nil (thn_n ⟨⟨h2, (congrArg Value.bool (by first | (simp only [h217, h240, h304, b0, b1, b2, b3, b4, b5, b6, b7, b8, b9]; done) | simp [h217, h240, h304]))⟩, hi393⟩)
      ·
       rintro f395 w396 ⟨⟨e397, e398⟩, hg399⟩
       have hb400 := low0 hi.1 hg399
       refine wpf_cond e398 (fun h401 => ?_) (fun h401 => ?_)
       ·
        refine wpf_seq_region ?_
        have k402 := (hi.2.2.1.grown0 hg399)
        refine wpo_store1 (v := .bool false) (cs' := #[.bool false]) ot_4 e397 rfl rfl k402 (Nat.le_of_ble_eq_true rfl) rfl ?_
        intro w403 hS404
        have hb405 := low1 hb400 hS404.grw (by omega)
        refine wpo_nil ?_
        refine wpf_ret ?_
        refine blk_r ?_
        exact Or.inr ⟨rfl, (grown_trans (grown_weak hg399) hS404.grw), hb405, hS404.blk, nt_t ((rightTo_i h217).symm.trans h401)⟩
       ·
        have h406 := or_l h401
        have h407 := nt_f h406
        have hr408 := inR_iff.1 h407
        have h409 := or_r h401
        have h410 := of_decide_eq_false h409
        refine wpf_skip ?_
        refine blk_n ?_
        exact Or.inl ⟨rfl, hg399, nt_f ((rightTo_i h217).symm.trans h401)⟩
    ·
     rintro e f2 w2 (⟨rfl, hg, hx⟩ | ⟨rfl, hg, hg0, hb, hx⟩)
     ·
      exact Or.inl ⟨rfl, keepH_none hg, below_none hg hlW, low0 hi.1 hg, hi.2.1.grown0 hg, hi.2.2.1.grown0 hg, by rw [List.all_append, hi.2.2.2.1]; simp [hx], Nat.le_trans hi.2.2.2.2 hg.size⟩
     ·
      exact Or.inr ⟨rfl, keepH_some hg hlb2, hg.size, hg0, hb, by rw [List.all_append]; simp [hx]⟩
   ·
    intro D xs W hD hS hi hK
    subst hS
    have hDB : D ≠ B105 := by omega
    refine hEnd.closed.move rfl (fun _ => stepG_inBlock) ?_
    refine endStore hEnd (fT := fT) (v := .bool true) (cs' := #[.bool true]) ha.eval ot_4 e2 rfl rfl hi.2.2.1 (by simp) rfl fun W2 hsb => ?_
    have hK' : W2.heap[D]? = some (.deferred (some [])) := (hsb.grw.block D (Array.getElem?_eq_some_iff.1 hK).1 (fun e => hDB (Option.some.inj e))).trans hK
    have hgp := grownBy_putObj' W2 D (.deferred none)
    have hb2 := hsb.blk.grown hgp (some_ne (Ne.symm hDB))
    refine hEnd.finD ha hK' ⟨.bool true, resC rfl (resCell_mk1 ot_4 e2 (hb2.cell rfl)), ?_, ?_⟩ _
    ·
     rw [tabi_yes h119 hall (by omega), hi.2.2.2.1]
    ·
     exact low1 (low1 hi.1 hsb.grw (by omega)) hgp (Nat.le_trans hb207.size hD)
   ·
    intro D pre W hD hSp hx hK
    obtain ⟨hg, hb, hf⟩ := hx
    have hDB : D ≠ B105 := by omega
    have hgp := grownBy_putObj' W D (.deferred none)
    have hb2 := hb.grown hgp (some_ne (Ne.symm hDB))
    refine hEnd.finD ha hK ⟨.bool false, resC rfl (resCell_mk1 ot_4 e2 (hb2.cell rfl)), ?_, ?_⟩ _
    ·
     rw [tabi_yes h119 hall (by omega), all_prefix hSp hf]
    ·
     exact low1 hg hgp (Nat.le_trans hb207.size hD)
end Go.Dw.J
end
section
namespace Go.Dw
set_option linter.unusedSimpArgs false
set_option linter.unusedVariables false
def viewTh (t : Th) (l : Lab) : Th := if labelFlow t.lab l = true then t else thingNew t.kind t.lab t.to
theorem viewTh_y {t : Th} {l : Lab} (h : labelFlow t.lab l = true) : viewTh t l = t := if_pos h
theorem viewTh_z {t : Th} {l : Lab} (h : labelFlow t.lab l = false) (h2 : newOk t.kind t.lab t.to = false) : viewTh t l = Th.zero := by
  unfold viewTh thingNew
  rw [if_neg (by rw [h]; simp), if_neg (by rw [h2]; simp)]
theorem viewTh_ny {t : Th} {l : Lab} (h : labelFlow t.lab l = false) (h2 : newOk t.kind t.lab t.to = true) (h3 : (decide (t.kind = 2) || decide (t.kind = 3)) = true) : viewTh t l = ⟨t.kind, t.lab, 0, 0, zeros4, [], t.to⟩ := by
  unfold viewTh thingNew newTh
  rw [if_neg (by rw [h]; simp), if_pos h2, if_pos (by unfold has4; exact h3)]
theorem viewTh_nn {t : Th} {l : Lab} (h : labelFlow t.lab l = false) (h2 : newOk t.kind t.lab t.to = true) (h3 : (decide (t.kind = 2) || decide (t.kind = 3)) = false) : viewTh t l = ⟨t.kind, t.lab, 0, 0, [], [], t.to⟩ := by
  unfold viewTh thingNew newTh
  rw [if_neg (by rw [h]; simp), if_pos h2, if_neg (by unfold has4; rw [h3]; simp)]
end Go.Dw
end
section
namespace Go.Dw.J
open Go.RowKit Go.Dw Go.Proofs
set_option linter.unusedSectionVars false
set_option maxRecDepth 100000
set_option maxHeartbeats 4000000
set_option linter.unusedSimpArgs false
set_option linter.unusedVariables false
theorem gf_116 : goFn Try.prog 116 = true := by kernel_rfl
theorem gf_17 : goFn Try.prog 17 = true := by kernel_rfl
theorem gf_18 : goFn Try.prog 18 = true := by kernel_rfl
theorem gf_86 : goFn Try.prog 86 = true := by kernel_rfl
theorem copyI_c [Comp] (w : World) (xs : List Int) (a : Option Addr) (c : Nat) (hs : SlAt w a 1 (xs.map icell)) (hc : a = none → c = 0) (hn : xs.length ≤ 1048576) : CallsR Try.prog 116 #[.slice a xs.length c] w (fun v w' => ∃ (a' : Option Addr) (cap' : Nat), v = .slice a' xs.length cap' ∧ OwnN w.heap.size w' a' 3 1 cap' xs.length (xs.flatMap icell) ∧ w.grownBy w' none) := by
 refine calls_of_wpf (n := 5) Try.func116 rfl Try.ntmps116 rfl ?_
 have hb0 := World.grownBy.refl w none
 refine wpf_seq_region ?_
 refine wpo_assign (v := .slice none 0 0) rfl rfl ?_
 refine wpo_nil ?_
 refine wpf_seq_region ?_
 refine wpo_move (v := .slice a xs.length c) rfl rfl ?_
 refine wpo_appendN (g := icell) (ys := []) (zs := xs) (lo := w.heap.size) mk_33 rfl wide_int (by omega) onec_int rfl rfl OwnN.nil (SlAt.low hs hb0) hc (by first | omega | exact Nat.le_of_ble_eq_true rfl | (simp only [List.length_nil, List.length_cons, List.length_append, List.length_replicate]; omega)) (by omega) hb0.size rfl ?_
 intro a101 cap102 w103 hO104 hg105 hor106
 have hb107 := low0 hb0 hg105
 refine wpo_assign (v := .slice a101 xs.length cap102) rfl rfl ?_
 refine wpo_nil ?_
 refine wpf_ret ?_
 refine ⟨.slice a101 xs.length cap102, res1 rfl rfl, a101, cap102, rfl, hO104, hb107⟩
theorem copyThing_c [Comp] (w : World) (q : MTh) (hq : ThAt w q) (hn : q.t.slots.length ≤ 1048576 ∧ q.t.queue.length ≤ 1048576) : CallsR Try.prog 86 #[.agg #[.int .i64 q.t.kind, .int .i64 q.t.lab.s, .int .i64 q.t.lab.v, .int .i64 q.t.ve, .int .i64 q.t.num, .slice q.sa q.t.slots.length q.sc, .slice q.qa q.t.queue.length q.qc, .int .i64 q.t.to]] w (fun v w' => ∃ (sa : Option Addr) (sc : Nat) (qa : Option Addr) (qc : Nat), v = .agg #[.int .i64 q.t.kind, .int .i64 q.t.lab.s, .int .i64 q.t.lab.v, .int .i64 q.t.ve, .int .i64 q.t.num, .slice sa q.t.slots.length sc, .slice qa q.t.queue.length qc, .int .i64 q.t.to] ∧ OwnN w.heap.size w' sa 74 5 sc q.t.slots.length (q.t.slots.flatMap Rt.cells) ∧ OwnN w.heap.size w' qa 3 1 qc q.t.queue.length (q.t.queue.flatMap icell) ∧ w.grownBy w' none) := by
 refine calls_of_wpf (n := 12) Try.func86 rfl Try.ntmps86 rfl ?_
 have hb0 := World.grownBy.refl w none
 refine wpf_seq_region ?_
 refine wpo_box (v := .agg #[.int .i64 q.t.kind, .int .i64 q.t.lab.s, .int .i64 q.t.lab.v, .int .i64 q.t.ve, .int .i64 q.t.num, .slice q.sa q.t.slots.length q.sc, .slice q.qa q.t.queue.length q.qc, .int .i64 q.t.to]) (cs := #[.int .i64 q.t.kind, .int .i64 q.t.lab.s, .int .i64 q.t.lab.v, .int .i64 q.t.ve, .int .i64 q.t.num, .slice q.sa q.t.slots.length q.sc, .slice q.qa q.t.queue.length q.qc, .int .i64 q.t.to]) rfl rfl rfl ?_
 intro B101 w102 hN103
 have hlB101 := hN_ge hN103 hb0
 have hb104 := low0 hb0 hN103.grw
 refine wpo_alloc (cs := #[.int .i64 0, .int .i64 0, .int .i64 0, .int .i64 0, .int .i64 0, .slice none 0 0, .slice none 0 0, .int .i64 0]) zt_35 rfl rfl ?_
 intro B105 w106 hN107
 have hlB105 := hN_ge hN107 hb104
 have lt_B101_B105 := hN_gtl hN107 (hN103.blk).lt
 have hb108 := low0 hb104 hN107.grw
 refine wpo_nil ?_
 refine wpf_seq_region ?_
 refine wpo_fieldAddr (o' := 5) fo_35_4 rfl rfl rfl ?_
 have k109 := (hN103.blk.grown0 hN107.grw)
 refine wpo_load1 (v := .slice q.sa q.t.slots.length q.sc) ot_32 rfl (k109.cell rfl) rfl ?_
 refine wpo_call (vs := [.slice q.sa q.t.slots.length q.sc]) gf_96 (args_cons rfl args_nil) rfl (copyR_c _ q.t.slots _ _ (ThAt.low hq hb108).1 (ThAt.low hq hb108).2.2.1 (by first | omega | exact Nat.le_of_ble_eq_true rfl | (simp only [List.length_nil, List.length_cons, List.length_append, List.length_replicate]; omega))) ?_
 rintro _ w114 ⟨a110, cap111, rfl, hO112, hg113⟩
 have hb115 := low0 hb108 hg113
 have hO116 := OwnN.mono hO112 hb108.size
 refine wpo_fieldAddr (o' := 5) fo_35_4 rfl rfl rfl ?_
 have k117 := (k109.grown0 hg113)
 refine wpo_store1 (v := .slice a110 q.t.slots.length cap111) (cs' := #[.int .i64 q.t.kind, .int .i64 q.t.lab.s, .int .i64 q.t.lab.v, .int .i64 q.t.ve, .int .i64 q.t.num, .slice a110 q.t.slots.length cap111, .slice q.qa q.t.queue.length q.qc, .int .i64 q.t.to]) ot_32 rfl rfl rfl k117 (Nat.le_of_ble_eq_true rfl) rfl ?_
 intro w118 hS119
 have hb120 := low1 hb115 hS119.grw (by omega)
 refine wpo_nil ?_
 refine wpf_seq_region ?_
 refine wpo_fieldAddr (o' := 6) fo_35_5 rfl rfl rfl ?_
 refine wpo_load1 (v := .slice q.qa q.t.queue.length q.qc) ot_33 rfl (hS119.blk.cell rfl) rfl ?_
 refine wpo_call (vs := [.slice q.qa q.t.queue.length q.qc]) gf_116 (args_cons rfl args_nil) rfl (copyI_c _ q.t.queue _ _ (ThAt.low hq hb120).2.1 (ThAt.low hq hb120).2.2.2 (by first | omega | exact Nat.le_of_ble_eq_true rfl | (simp only [List.length_nil, List.length_cons, List.length_append, List.length_replicate]; omega))) ?_
 rintro _ w125 ⟨a121, cap122, rfl, hO123, hg124⟩
 have hb126 := low0 hb120 hg124
 have hO127 := OwnN.mono hO123 hb120.size
 refine wpo_fieldAddr (o' := 6) fo_35_5 rfl rfl rfl ?_
 have k128 := (hS119.blk.grown0 hg124)
 refine wpo_store1 (v := .slice a121 q.t.queue.length cap122) (cs' := #[.int .i64 q.t.kind, .int .i64 q.t.lab.s, .int .i64 q.t.lab.v, .int .i64 q.t.ve, .int .i64 q.t.num, .slice a110 q.t.slots.length cap111, .slice a121 q.t.queue.length cap122, .int .i64 q.t.to]) ot_33 rfl rfl rfl k128 (Nat.le_of_ble_eq_true rfl) rfl ?_
 intro w129 hS130
 have hb131 := low1 hb126 hS130.grw (by omega)
 refine wpo_nil ?_
 refine wpf_seq_region ?_
 refine wpo_loadn (vs := [.int .i64 q.t.kind, .int .i64 q.t.lab.s, .int .i64 q.t.lab.v, .int .i64 q.t.ve, .int .i64 q.t.num, .slice a110 q.t.slots.length cap111, .slice a121 q.t.queue.length cap122, .int .i64 q.t.to]) rt_35 rfl rfl (hS130.blk.rangeL 0 8 rfl) rfl ?_
 have k132 := ((((hN107.blk.grown0 hg113).gn hS119.grw).grown0 hg124).gn hS130.grw)
 refine wpo_storen (vs := [.int .i64 q.t.kind, .int .i64 q.t.lab.s, .int .i64 q.t.lab.v, .int .i64 q.t.ve, .int .i64 q.t.num, .slice a110 q.t.slots.length cap111, .slice a121 q.t.queue.length cap122, .int .i64 q.t.to]) (cs' := #[.int .i64 q.t.kind, .int .i64 q.t.lab.s, .int .i64 q.t.lab.v, .int .i64 q.t.ve, .int .i64 q.t.num, .slice a110 q.t.slots.length cap111, .slice a121 q.t.queue.length cap122, .int .i64 q.t.to]) rt_35 rfl rfl rfl (by simp [Value.oneCell']) k132 (Nat.le_of_ble_eq_true rfl) rfl ?_
 intro w133 hS134
 have hb135 := low1 hb131 hS134.grw (by omega)
 refine wpo_nil ?_
 refine wpf_ret ?_
 refine ⟨.agg #[.int .i64 q.t.kind, .int .i64 q.t.lab.s, .int .i64 q.t.lab.v, .int .i64 q.t.ve, .int .i64 q.t.num, .slice a110 q.t.slots.length cap111, .slice a121 q.t.queue.length cap122, .int .i64 q.t.to], resC rfl (resCell_mk (vs := [.int .i64 q.t.kind, .int .i64 q.t.lab.s, .int .i64 q.t.lab.v, .int .i64 q.t.ve, .int .i64 q.t.num, .slice a110 q.t.slots.length cap111, .slice a121 q.t.queue.length cap122, .int .i64 q.t.to]) rt_35 rfl rfl (hS134.blk.rangeL 0 8 rfl)), a110, cap111, a121, cap122, rfl, (OwnN.typB (OwnN.typB ((OwnN.typB hO116 hS119.grw k117 (by decide)).grown0 hg124) hS130.grw k128 (by decide)) hS134.grw k132 (by decide)), (OwnN.typB (OwnN.typB hO127 hS130.grw k128 (by decide)) hS134.grw k132 (by decide)), hb135⟩
end Go.Dw.J
end
