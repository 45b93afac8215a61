/- Walks, printed by a program of mine (gen.py) out of the functions. -/
import Derived.Test.YtemimomfjapgiaaDoorA
namespace Go.Proofs.YtemimomfjapgiaaDoor
open Go.RowKit Go.Dw
set_option maxRecDepth 100000
set_option maxHeartbeats 4000000
set_option linter.unusedSimpArgs false
set_option linter.unusedVariables false
theorem gf_31 : goFn Tryd.prog 31 = true := by kernel_rfl
theorem l6In_c (n lo hi : Int) (w : World) : CallsR Tryd.prog 31 #[.int .i64 n, .int .i64 lo, .int .i64 hi] w (fun v w' => v = .bool (inR n lo hi) ∧ w.grownBy w' none) := by
 refine calls_of_wpf (n := 15) Tryd.func31 rfl Tryd.ntmps31 rfl ?_
 have hb0 := World.grownBy.refl w none
 refine wpf_seq_region ?_
 refine wpo_assign (v := .bool false) rfl rfl ?_
 refine wpo_nil ?_
 refine wpf_seq_region_mid (fun f' w' => (f' 6 = .bool ((decide (lo ≤ n)) && (decide (n ≤ hi)))) ∧ w = w') ?_ ?_
 ·
  refine wpo_move (v := .int .i64 n) rfl rfl ?_
  refine wpo_move (v := .int .i64 lo) rfl rfl ?_
  refine wpo_geq (q := decide (lo ≤ n)) rfl rfl rfl rfl ?_
  refine wpo_move (v := .bool (decide (lo ≤ n))) rfl rfl ?_
  rcases bcases (decide (lo ≤ n)) with h101 | h101
  ·
   have h102 := of_decide_eq_true h101
   refine wpo_run rfl rfl rfl h101 ?_
   refine wpo_move (v := .int .i64 n) rfl rfl ?_
   refine wpo_run rfl rfl rfl h101 ?_
   refine wpo_move (v := .int .i64 hi) rfl rfl ?_
   refine wpo_run rfl rfl rfl h101 ?_
   refine wpo_leq (q := decide (n ≤ hi)) rfl rfl rfl rfl ?_
   refine wpo_pickt (v := .bool (decide (n ≤ hi))) rfl h101 rfl rfl ?_
   refine wpo_assign (v := .bool (decide (n ≤ hi))) rfl rfl ?_
   exact wpo_nil ⟨(congrArg Value.bool (by first | (simp only [h101, b0, b1, b2, b3, b4, b5, b6, b7, b8, b9]; done) | simp [h101])), rfl⟩
  ·
   have h103 := of_decide_eq_false h101
   iterate 3 refine wpo_pass rfl rfl rfl h101 rfl ?_
   refine wpo_pickf (v := .bool false) rfl h101 rfl rfl ?_
   refine wpo_assign (v := .bool false) rfl rfl ?_
   exact wpo_nil ⟨(congrArg Value.bool (by first | (simp only [h101, b0, b1, b2, b3, b4, b5, b6, b7, b8, b9]; done) | simp [h101])), rfl⟩
 ·
  rintro f104 w105 ⟨e106, rfl⟩
  refine wpf_ret ?_
  refine ⟨.bool ((decide (lo ≤ n)) && (decide (n ≤ hi))), res1 rfl e106, ?_, hb0⟩
  rfl

theorem inRange_c (n lo hi : Int) (w : World) : CallsR Tryd.prog 19 #[.int .i64 n, .int .i64 lo, .int .i64 hi] w (fun v w' => v = .bool (inR n lo hi) ∧ w.grownBy w' none) := by
 refine calls_of_wpf (n := 15) Tryd.func19 rfl Tryd.ntmps19 rfl ?_
 have hb0 := World.grownBy.refl w none
 refine wpf_seq_region ?_
 refine wpo_assign (v := .bool false) rfl rfl ?_
 refine wpo_nil ?_
 refine wpf_seq_region_mid (fun f' w' => (f' 6 = .bool ((decide (lo ≤ n)) && (decide (n ≤ hi)))) ∧ w = w') ?_ ?_
 ·
  refine wpo_move (v := .int .i64 lo) rfl rfl ?_
  refine wpo_move (v := .int .i64 n) rfl rfl ?_
  refine wpo_leq (q := decide (lo ≤ n)) rfl rfl rfl rfl ?_
  refine wpo_move (v := .bool (decide (lo ≤ n))) rfl rfl ?_
  rcases bcases (decide (lo ≤ n)) with h101 | h101
  ·
   have h102 := of_decide_eq_true h101
   refine wpo_run rfl rfl rfl h101 ?_
   refine wpo_move (v := .int .i64 n) rfl rfl ?_
   refine wpo_run rfl rfl rfl h101 ?_
   refine wpo_move (v := .int .i64 hi) rfl rfl ?_
   refine wpo_run rfl rfl rfl h101 ?_
   refine wpo_leq (q := decide (n ≤ hi)) rfl rfl rfl rfl ?_
   refine wpo_pickt (v := .bool (decide (n ≤ hi))) rfl h101 rfl rfl ?_
   refine wpo_assign (v := .bool (decide (n ≤ hi))) rfl rfl ?_
   exact wpo_nil ⟨(congrArg Value.bool (by first | (simp only [h101, b0, b1, b2, b3, b4, b5, b6, b7, b8, b9]; done) | simp [h101])), rfl⟩
  ·
   have h103 := of_decide_eq_false h101
   iterate 3 refine wpo_pass rfl rfl rfl h101 rfl ?_
   refine wpo_pickf (v := .bool false) rfl h101 rfl rfl ?_
   refine wpo_assign (v := .bool false) rfl rfl ?_
   exact wpo_nil ⟨(congrArg Value.bool (by first | (simp only [h101, b0, b1, b2, b3, b4, b5, b6, b7, b8, b9]; done) | simp [h101])), rfl⟩
 ·
  rintro f104 w105 ⟨e106, rfl⟩
  refine wpf_ret ?_
  refine ⟨.bool ((decide (lo ≤ n)) && (decide (n ≤ hi))), res1 rfl e106, ?_, hb0⟩
  rfl

theorem sLabelOk_c (l : Lab) (w : World) : CallsR Tryd.prog 51 #[.agg #[.int .i64 l.s, .int .i64 l.v]] w (fun v w' => v = .bool (labelOk l) ∧ w.grownBy w' none) := by
 refine calls_of_wpf (n := 11) Tryd.func51 rfl Tryd.ntmps51 rfl ?_
 have hb0 := World.grownBy.refl w none
 refine wpf_seq_region ?_
 refine wpo_box (v := .agg #[.int .i64 l.s, .int .i64 l.v]) (cs := #[.int .i64 l.s, .int .i64 l.v]) rfl rfl rfl ?_
 intro B101 w102 hN103
 have hlB101 := hN_ge hN103 hb0
 have hb104 := low0 hb0 hN103.grw
 refine wpo_assign (v := .bool false) rfl rfl ?_
 refine wpo_nil ?_
 refine wpf_seq_region_mid (fun f' w' => (f' 2 = .bool (inR l.s 0 3 && inR l.v 0 3)) ∧ w102.grownBy w' none) ?_ ?_
 ·
  refine wpo_fieldAddr (o' := 0) fo_27_0 rfl rfl rfl ?_
  refine wpo_load1 (v := .int .i64 l.s) ot_3 rfl (hN103.blk.cell rfl) rfl ?_
  refine wpo_call (vs := [.int .i64 l.s, .int .i64 0, .int .i64 3]) gf_31 (args_cons rfl (args_cons rfl (args_cons rfl args_nil))) rfl (l6In_c l.s 0 3 _) ?_
  rintro _ w115 ⟨rfl, hg116⟩
  have hb117 := low0 hb104 hg116
  refine wpo_move (v := .bool (inR l.s 0 3)) rfl rfl ?_
  rcases bcases (inR l.s 0 3) with h118 | h118
  ·
   refine wpo_run rfl rfl rfl h118 ?_
   refine wpo_fieldAddr (o' := 1) fo_27_1 rfl rfl rfl ?_
   refine wpo_run rfl rfl rfl h118 ?_
   have k119 := (hN103.blk.grown0 hg116)
   refine wpo_load1 (v := .int .i64 l.v) ot_3 rfl (k119.cell rfl) rfl ?_
   refine wpo_run rfl rfl rfl h118 ?_
   refine wpo_call (vs := [.int .i64 l.v, .int .i64 0, .int .i64 3]) gf_31 (args_cons rfl (args_cons rfl (args_cons rfl args_nil))) rfl (l6In_c l.v 0 3 _) ?_
   rintro _ w120 ⟨rfl, hg121⟩
   have hb122 := low0 hb117 hg121
   refine wpo_pickt (v := .bool (inR l.v 0 3)) rfl h118 rfl rfl ?_
   refine wpo_assign (v := .bool (inR l.v 0 3)) rfl rfl ?_
   exact wpo_nil ⟨(congrArg Value.bool (by first | (simp only [h118, b0, b1, b2, b3, b4, b5, b6, b7, b8, b9]; done) | simp [h118])), (grown_trans hg116 hg121)⟩
  ·
   iterate 3 refine wpo_pass rfl rfl rfl h118 rfl ?_
   refine wpo_pickf (v := .bool false) rfl h118 rfl rfl ?_
   refine wpo_assign (v := .bool false) rfl rfl ?_
   exact wpo_nil ⟨(congrArg Value.bool (by first | (simp only [h118, b0, b1, b2, b3, b4, b5, b6, b7, b8, b9]; done) | simp [h118])), hg116⟩
 ·
  rintro f123 w124 ⟨e125, hg126⟩
  have hb127 := low0 hb104 hg126
  refine wpf_ret ?_
  refine ⟨.bool (inR l.s 0 3 && inR l.v 0 3), res1 rfl e125, ?_, hb127⟩
  rfl

theorem sRightOk_c (r : Rt) (w : World) : CallsR Tryd.prog 44 #[.agg #[.int .i64 r.th, .int .i64 r.ve, .bool r.rd, .bool r.wr, .bool r.wk]] w (fun v w' => v = .bool (rightOk r) ∧ w.grownBy w' none) := by
 refine calls_of_wpf (n := 26) Tryd.func44 rfl Tryd.ntmps44 rfl ?_
 have hb0 := World.grownBy.refl w none
 refine wpf_seq_region ?_
 refine wpo_box (v := .agg #[.int .i64 r.th, .int .i64 r.ve, .bool r.rd, .bool r.wr, .bool r.wk]) (cs := #[.int .i64 r.th, .int .i64 r.ve, .bool r.rd, .bool r.wr, .bool r.wk]) rfl rfl rfl ?_
 intro B101 w102 hN103
 have hlB101 := hN_ge hN103 hb0
 have hb104 := low0 hb0 hN103.grw
 refine wpo_assign (v := .bool false) rfl rfl ?_
 refine wpo_nil ?_
 refine wpf_seq ?_
 refine wpf_seq_region ?_
 refine wpo_fieldAddr (o' := 0) fo_39_0 rfl rfl rfl ?_
 refine wpo_load1 (v := .int .i64 r.th) ot_3 rfl (hN103.blk.cell rfl) rfl ?_
 refine wpo_eql (q := decide (r.th = 0)) rfl rfl rfl rfl ?_
 refine wpo_nil ?_
 refine wpf_cond rfl (fun h105 => ?_) (fun h105 => ?_)
 ·
  have h106 := of_decide_eq_true h105
  refine wpf_seq_region ?_
  refine wpo_loadn (vs := [.int .i64 r.th, .int .i64 r.ve, .bool r.rd, .bool r.wr, .bool r.wk]) rt_39 rfl rfl (hN103.blk.rangeL 0 5 rfl) rfl ?_
  refine wpo_build (ps := []) (v := .agg #[.int .i64 0, .int .i64 0, .bool false, .bool false, .bool false]) parts_nil (by kernel_rfl) rfl ?_
  refine wpo_eqs (q := decide (r = Rt.zero)) rfl rfl (eqG_39 _ _ r Rt.zero _) (eqV_39 r Rt.zero _) rfl rfl ?_
  refine wpo_assign (v := .bool (decide (r = Rt.zero))) rfl rfl ?_
  refine wpo_nil ?_
  refine wpf_ret ?_
  refine thn_r ?_
  refine ⟨.bool (decide (r = Rt.zero)), res1 rfl rfl, ?_, hb104⟩
  exact congrArg Value.bool (rightOk_z h105)
 ·
  have h107 := of_decide_eq_false h105
  refine wpf_skip ?_
  refine thn_n ?_
  refine wpf_seq_region_mid (fun f' w' => (f' 2 = .bool ((inR r.th 1 8 && inR r.ve 0 5) && (!(r.wk && r.wr)))) ∧ w102.grownBy w' none) ?_ ?_
  ·
   refine wpo_fieldAddr (o' := 0) fo_39_0 rfl rfl rfl ?_
   refine wpo_load1 (v := .int .i64 r.th) ot_3 rfl (hN103.blk.cell rfl) rfl ?_
   refine wpo_call (vs := [.int .i64 r.th, .int .i64 1, .int .i64 8]) gf_31 (args_cons rfl (args_cons rfl (args_cons rfl args_nil))) rfl (l6In_c r.th 1 8 _) ?_
   rintro _ w119 ⟨rfl, hg120⟩
   have hb121 := low0 hb104 hg120
   refine wpo_move (v := .bool (inR r.th 1 8)) rfl rfl ?_
   rcases bcases (inR r.th 1 8) with h122 | h122
   ·
    refine wpo_run rfl rfl rfl h122 ?_
    refine wpo_fieldAddr (o' := 1) fo_39_1 rfl rfl rfl ?_
    refine wpo_run rfl rfl rfl h122 ?_
    have k123 := (hN103.blk.grown0 hg120)
    refine wpo_load1 (v := .int .i64 r.ve) ot_3 rfl (k123.cell rfl) rfl ?_
    refine wpo_run rfl rfl rfl h122 ?_
    refine wpo_call (vs := [.int .i64 r.ve, .int .i64 0, .int .i64 5]) gf_31 (args_cons rfl (args_cons rfl (args_cons rfl args_nil))) rfl (l6In_c r.ve 0 5 _) ?_
    rintro _ w124 ⟨rfl, hg125⟩
    have hb126 := low0 hb121 hg125
    refine wpo_pickt (v := .bool (inR r.ve 0 5)) rfl h122 rfl rfl ?_
    refine wpo_move (v := .bool (inR r.ve 0 5)) rfl rfl ?_
    rcases bcases (inR r.ve 0 5) with h127 | h127
    ·
     refine wpo_run rfl rfl rfl h127 ?_
     refine wpo_fieldAddr (o' := 4) fo_39_4 rfl rfl rfl ?_
     refine wpo_run rfl rfl rfl h127 ?_
     have k128 := (k123.grown0 hg125)
     refine wpo_load1 (v := .bool r.wk) ot_4 rfl (k128.cell rfl) rfl ?_
     refine wpo_run rfl rfl rfl h127 ?_
     refine wpo_move (v := .bool r.wk) rfl rfl ?_
     rcases bcases (r.wk) with h129 | h129
     ·
      refine wpo_run rfl rfl rfl h129 ?_
      refine wpo_fieldAddr (o' := 3) fo_39_3 rfl rfl rfl ?_
      refine wpo_run rfl rfl rfl h129 ?_
      refine wpo_load1 (v := .bool r.wr) ot_4 rfl (k128.cell rfl) rfl ?_
      refine wpo_run rfl rfl rfl h127 ?_
      refine wpo_pickt (v := .bool r.wr) rfl h129 rfl rfl ?_
      refine wpo_run rfl rfl rfl h127 ?_
      refine wpo_not (b' := !r.wr) rfl rfl rfl ?_
      refine wpo_pickt (v := .bool (!r.wr)) rfl h127 rfl rfl ?_
      refine wpo_assign (v := .bool (!r.wr)) rfl rfl ?_
      exact wpo_nil ⟨(congrArg Value.bool (by first | (simp only [h105, h122, h127, h129, b0, b1, b2, b3, b4, b5, b6, b7, b8, b9]; done) | simp [h105, h122, h127, h129])), (grown_trans hg120 hg125)⟩
     ·
      refine wpo_pass rfl rfl rfl h129 rfl ?_
      refine wpo_pass rfl rfl rfl h129 rfl ?_
      refine wpo_run rfl rfl rfl h127 ?_
      refine wpo_pickf (v := .bool false) rfl h129 rfl rfl ?_
      refine wpo_run rfl rfl rfl h127 ?_
      refine wpo_not (b' := true) rfl rfl rfl ?_
      refine wpo_pickt (v := .bool true) rfl h127 rfl rfl ?_
      refine wpo_assign (v := .bool true) rfl rfl ?_
      exact wpo_nil ⟨(congrArg Value.bool (by first | (simp only [h105, h122, h127, h129, b0, b1, b2, b3, b4, b5, b6, b7, b8, b9]; done) | simp [h105, h122, h127, h129])), (grown_trans hg120 hg125)⟩
    ·
     iterate 3 refine wpo_pass rfl rfl rfl h127 rfl ?_
     refine wpo_passu rfl rfl rfl rfl ?_
     refine wpo_passu rfl rfl rfl rfl ?_
     refine wpo_pass rfl rfl rfl h127 rfl ?_
     refine wpo_pass rfl rfl rfl h127 rfl ?_
     refine wpo_pickf (v := .bool false) rfl h127 rfl rfl ?_
     refine wpo_assign (v := .bool false) rfl rfl ?_
     exact wpo_nil ⟨(congrArg Value.bool (by first | (simp only [h105, h122, h127, b0, b1, b2, b3, b4, b5, b6, b7, b8, b9]; done) | simp [h105, h122, h127])), (grown_trans hg120 hg125)⟩
   ·
    iterate 3 refine wpo_pass rfl rfl rfl h122 rfl ?_
    refine wpo_pickf (v := .bool false) rfl h122 rfl rfl ?_
    refine wpo_move (v := .bool false) rfl rfl ?_
    iterate 3 refine wpo_pass rfl rfl rfl rfl rfl ?_
    refine wpo_passu rfl rfl rfl rfl ?_
    refine wpo_passu rfl rfl rfl rfl ?_
    refine wpo_pass rfl rfl rfl rfl rfl ?_
    refine wpo_pass rfl rfl rfl rfl rfl ?_
    refine wpo_pickf (v := .bool false) rfl rfl rfl rfl ?_
    refine wpo_assign (v := .bool false) rfl rfl ?_
    exact wpo_nil ⟨(congrArg Value.bool (by first | (simp only [h105, h122, b0, b1, b2, b3, b4, b5, b6, b7, b8, b9]; done) | simp [h105, h122])), hg120⟩
  ·
   rintro f130 w131 ⟨e132, hg133⟩
   have hb134 := low0 hb104 hg133
   refine wpf_ret ?_
   refine ⟨.bool ((inR r.th 1 8 && inR r.ve 0 5) && (!(r.wk && r.wr))), res1 rfl e132, ?_, hb134⟩
   exact congrArg Value.bool (rightOk_n h105)

end Go.Proofs.YtemimomfjapgiaaDoor
