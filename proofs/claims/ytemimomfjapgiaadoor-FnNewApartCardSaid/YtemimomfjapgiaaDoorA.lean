/- Walks, printed by a program of mine (gen.py) out of the functions. -/
import Derived.Test.YtemimomfjapgiaaDoorProg
import Derived.Test.YtemimomfjapgiaaDoorR
namespace Go.Proofs.YtemimomfjapgiaaDoor
open Go.RowKit Go.Dw
set_option maxRecDepth 100000
set_option maxHeartbeats 4000000
set_option linter.unusedSimpArgs false
set_option linter.unusedVariables false
theorem fo_27_0 : fieldOff Tryd.prog 27 0 = some 0 := by kernel_rfl
theorem fo_27_1 : fieldOff Tryd.prog 27 1 = some 1 := by kernel_rfl
theorem fo_39_0 : fieldOff Tryd.prog 39 0 = some 0 := by kernel_rfl
theorem fo_39_1 : fieldOff Tryd.prog 39 1 = some 1 := by kernel_rfl
theorem fo_39_3 : fieldOff Tryd.prog 39 3 = some 3 := by kernel_rfl
theorem fo_39_4 : fieldOff Tryd.prog 39 4 = some 4 := by kernel_rfl
theorem ot_3 : oneTy Tryd.prog 3 = true := by kernel_rfl
theorem ot_4 : oneTy Tryd.prog 4 = true := by kernel_rfl
theorem rt_39 : rowTy Tryd.prog 39 = some 5 := by kernel_rfl
theorem mixed_ : Tryd.prog.follows .mixedOrders = true := by kernel_rfl
theorem eqG_39 (x y : Operand) (a b : Rt) (w : World) : (eqGuard .eql 39 x y (.agg a.cells.toArray) (.agg b.cells.toArray)).run Tryd.prog w = .ok () w := by kernel_rfl
theorem eqV_39 (a b : Rt) (w : World) : (binOp .eql 39 (.agg a.cells.toArray) (.agg b.cells.toArray)).run Tryd.prog w = .ok (.bool (decide (a = b))) w := by
  have h := run_equalIn_struct (P := Tryd.prog) w 9999 39 a.cells.toArray b.cells.toArray (by kernel_rfl) (by kernel_rfl)
  obtain ⟨a0, a1, a2, a3, a4⟩ := a
  obtain ⟨b0, b1, b2, b3, b4⟩ := b
  simp only [binOp, Op.equal, Op.maxDepth, Sem.run_bind, Rt.cells] at h ⊢
  rw [h]
  simp [go_sem]
  (repeat' split) <;> simp_all
theorem neG_39 (x y : Operand) (a b : Rt) (w : World) : (eqGuard .neq 39 x y (.agg a.cells.toArray) (.agg b.cells.toArray)).run Tryd.prog w = .ok () w := by kernel_rfl
theorem neV_39 (a b : Rt) (w : World) : (binOp .neq 39 (.agg a.cells.toArray) (.agg b.cells.toArray)).run Tryd.prog w = .ok (.bool (!decide (a = b))) w := by
  have h := eqV_39 a b w
  have h2 := run_equalIn_struct (P := Tryd.prog) w 9999 39 a.cells.toArray b.cells.toArray (by kernel_rfl) (by kernel_rfl)
  obtain ⟨a0, a1, a2, a3, a4⟩ := a
  obtain ⟨b0, b1, b2, b3, b4⟩ := b
  simp only [binOp, Op.equal, Op.maxDepth, Sem.run_bind, Rt.cells] at h h2 ⊢
  rw [h2] at h ⊢
  revert h
  simp [go_sem]
  (repeat' split) <;> simp_all
theorem eqG_27 (x y : Operand) (a b : Lab) (w : World) : (eqGuard .eql 27 x y (.agg a.cells.toArray) (.agg b.cells.toArray)).run Tryd.prog w = .ok () w := by kernel_rfl
theorem eqV_27 (a b : Lab) (w : World) : (binOp .eql 27 (.agg a.cells.toArray) (.agg b.cells.toArray)).run Tryd.prog w = .ok (.bool (decide (a = b))) w := by
  have h := run_equalIn_struct (P := Tryd.prog) w 9999 27 a.cells.toArray b.cells.toArray (by kernel_rfl) (by kernel_rfl)
  obtain ⟨a0, a1⟩ := a
  obtain ⟨b0, b1⟩ := b
  simp only [binOp, Op.equal, Op.maxDepth, Sem.run_bind, Lab.cells] at h ⊢
  rw [h]
  simp [go_sem]
  (repeat' split) <;> simp_all
theorem neG_27 (x y : Operand) (a b : Lab) (w : World) : (eqGuard .neq 27 x y (.agg a.cells.toArray) (.agg b.cells.toArray)).run Tryd.prog w = .ok () w := by kernel_rfl
theorem neV_27 (a b : Lab) (w : World) : (binOp .neq 27 (.agg a.cells.toArray) (.agg b.cells.toArray)).run Tryd.prog w = .ok (.bool (!decide (a = b))) w := by
  have h := eqV_27 a b w
  have h2 := run_equalIn_struct (P := Tryd.prog) w 9999 27 a.cells.toArray b.cells.toArray (by kernel_rfl) (by kernel_rfl)
  obtain ⟨a0, a1⟩ := a
  obtain ⟨b0, b1⟩ := b
  simp only [binOp, Op.equal, Op.maxDepth, Sem.run_bind, Lab.cells] at h h2 ⊢
  rw [h2] at h ⊢
  revert h
  simp [go_sem]
  (repeat' split) <;> simp_all
theorem LabelOk_c (l : Lab) (w : World) : CallsR Tryd.prog 35 #[.agg #[.int .i64 l.s, .int .i64 l.v]] w (fun v w' => v = .bool (labelOk l) ∧ w.grownBy w' none) := by
 refine calls_of_wpf (n := 21) Tryd.func35 rfl Tryd.ntmps35 rfl ?_
 have hb0 := World.grownBy.refl w none
 refine wpf_seq_region ?_
 refine wpo_box (v := .agg #[.int .i64 l.s, .int .i64 l.v]) (cs := #[.int .i64 l.s, .int .i64 l.v]) rfl rfl rfl ?_
 intro B101 w102 hN103
 have hlB101 := hN_ge hN103 hb0
 have hb104 := low0 hb0 hN103.grw
 refine wpo_assign (v := .bool false) rfl rfl ?_
 refine wpo_nil ?_
 refine wpf_seq_region_mid (fun f' w' => (f' 2 = .bool ((((decide (0 ≤ l.s)) && (decide (l.s ≤ 3))) && (decide (0 ≤ l.v))) && (decide (l.v ≤ 3)))) ∧ w102 = w') ?_ ?_
 ·
  refine wpo_fieldAddr (o' := 0) fo_27_0 rfl rfl rfl ?_
  refine wpo_load1 (v := .int .i64 l.s) ot_3 rfl (hN103.blk.cell rfl) rfl ?_
  refine wpo_geq (q := decide (0 ≤ l.s)) rfl rfl rfl rfl ?_
  refine wpo_move (v := .bool (decide (0 ≤ l.s))) rfl rfl ?_
  rcases bcases (decide (0 ≤ l.s)) with h105 | h105
  ·
   have h106 := of_decide_eq_true h105
   refine wpo_run rfl rfl rfl h105 ?_
   refine wpo_fieldAddr (o' := 0) fo_27_0 rfl rfl rfl ?_
   refine wpo_run rfl rfl rfl h105 ?_
   refine wpo_load1 (v := .int .i64 l.s) ot_3 rfl (hN103.blk.cell rfl) rfl ?_
   refine wpo_run rfl rfl rfl h105 ?_
   refine wpo_leq (q := decide (l.s ≤ 3)) rfl rfl rfl rfl ?_
   refine wpo_pickt (v := .bool (decide (l.s ≤ 3))) rfl h105 rfl rfl ?_
   refine wpo_move (v := .bool (decide (l.s ≤ 3))) rfl rfl ?_
   rcases bcases (decide (l.s ≤ 3)) with h107 | h107
   ·
    have h108 := of_decide_eq_true h107
    refine wpo_run rfl rfl rfl h107 ?_
    refine wpo_fieldAddr (o' := 1) fo_27_1 rfl rfl rfl ?_
    refine wpo_run rfl rfl rfl h107 ?_
    refine wpo_load1 (v := .int .i64 l.v) ot_3 rfl (hN103.blk.cell rfl) rfl ?_
    refine wpo_run rfl rfl rfl h107 ?_
    refine wpo_geq (q := decide (0 ≤ l.v)) rfl rfl rfl rfl ?_
    refine wpo_pickt (v := .bool (decide (0 ≤ l.v))) rfl h107 rfl rfl ?_
    refine wpo_move (v := .bool (decide (0 ≤ l.v))) rfl rfl ?_
    rcases bcases (decide (0 ≤ l.v)) with h109 | h109
    ·
     have h110 := of_decide_eq_true h109
     refine wpo_run rfl rfl rfl h109 ?_
     refine wpo_fieldAddr (o' := 1) fo_27_1 rfl rfl rfl ?_
     refine wpo_run rfl rfl rfl h109 ?_
     refine wpo_load1 (v := .int .i64 l.v) ot_3 rfl (hN103.blk.cell rfl) rfl ?_
     refine wpo_run rfl rfl rfl h109 ?_
     refine wpo_leq (q := decide (l.v ≤ 3)) rfl rfl rfl rfl ?_
     refine wpo_pickt (v := .bool (decide (l.v ≤ 3))) rfl h109 rfl rfl ?_
     refine wpo_assign (v := .bool (decide (l.v ≤ 3))) rfl rfl ?_
     exact wpo_nil ⟨(congrArg Value.bool (by first | (simp only [h105, h107, h109, b0, b1, b2, b3, b4, b5, b6, b7, b8, b9]; done) | simp [h105, h107, h109])), rfl⟩
    ·
     have h111 := of_decide_eq_false h109
     iterate 3 refine wpo_pass rfl rfl rfl h109 rfl ?_
     refine wpo_pickf (v := .bool false) rfl h109 rfl rfl ?_
     refine wpo_assign (v := .bool false) rfl rfl ?_
     exact wpo_nil ⟨(congrArg Value.bool (by first | (simp only [h105, h107, h109, b0, b1, b2, b3, b4, b5, b6, b7, b8, b9]; done) | simp [h105, h107, h109])), rfl⟩
   ·
    have h112 := of_decide_eq_false h107
    iterate 3 refine wpo_pass rfl rfl rfl h107 rfl ?_
    refine wpo_pickf (v := .bool false) rfl h107 rfl rfl ?_
    refine wpo_move (v := .bool false) rfl rfl ?_
    iterate 3 refine wpo_pass rfl rfl rfl rfl rfl ?_
    refine wpo_pickf (v := .bool false) rfl rfl rfl rfl ?_
    refine wpo_assign (v := .bool false) rfl rfl ?_
    exact wpo_nil ⟨(congrArg Value.bool (by first | (simp only [h105, h107, b0, b1, b2, b3, b4, b5, b6, b7, b8, b9]; done) | simp [h105, h107])), rfl⟩
  ·
   have h113 := of_decide_eq_false h105
   iterate 3 refine wpo_pass rfl rfl rfl h105 rfl ?_
   refine wpo_pickf (v := .bool false) rfl h105 rfl rfl ?_
   refine wpo_move (v := .bool false) rfl rfl ?_
   iterate 3 refine wpo_pass rfl rfl rfl rfl rfl ?_
   refine wpo_pickf (v := .bool false) rfl rfl rfl rfl ?_
   refine wpo_move (v := .bool false) rfl rfl ?_
   iterate 3 refine wpo_pass rfl rfl rfl rfl rfl ?_
   refine wpo_pickf (v := .bool false) rfl rfl rfl rfl ?_
   refine wpo_assign (v := .bool false) rfl rfl ?_
   exact wpo_nil ⟨(congrArg Value.bool (by first | (simp only [h105, b0, b1, b2, b3, b4, b5, b6, b7, b8, b9]; done) | simp [h105])), rfl⟩
 ·
  rintro f114 w115 ⟨e116, rfl⟩
  refine wpf_ret ?_
  refine ⟨.bool ((((decide (0 ≤ l.s)) && (decide (l.s ≤ 3))) && (decide (0 ≤ l.v))) && (decide (l.v ≤ 3))), res1 rfl e116, ?_, hb104⟩
  simp [labelOk, inR, Bool.and_assoc]

theorem RightOk_c (r : Rt) (w : World) : CallsR Tryd.prog 23 #[.agg #[.int .i64 r.th, .int .i64 r.ve, .bool r.rd, .bool r.wr, .bool r.wk]] w (fun v w' => v = .bool (rightOk r) ∧ w.grownBy w' none) := by
 refine calls_of_wpf (n := 33) Tryd.func23 rfl Tryd.ntmps23 rfl ?_
 have hb0 := World.grownBy.refl w none
 refine wpf_seq_region ?_
 refine wpo_box (v := .agg #[.int .i64 r.th, .int .i64 r.ve, .bool r.rd, .bool r.wr, .bool r.wk]) (cs := #[.int .i64 r.th, .int .i64 r.ve, .bool r.rd, .bool r.wr, .bool r.wk]) rfl rfl rfl ?_
 intro B101 w102 hN103
 have hlB101 := hN_ge hN103 hb0
 have hb104 := low0 hb0 hN103.grw
 refine wpo_assign (v := .bool false) rfl rfl ?_
 refine wpo_nil ?_
 refine wpf_seq ?_
 refine wpf_seq_region ?_
 refine wpo_loadn (vs := [.int .i64 r.th, .int .i64 r.ve, .bool r.rd, .bool r.wr, .bool r.wk]) rt_39 rfl rfl (hN103.blk.rangeL 0 5 rfl) rfl ?_
 refine wpo_build (ps := []) (v := .agg #[.int .i64 0, .int .i64 0, .bool false, .bool false, .bool false]) parts_nil (by kernel_rfl) rfl ?_
 refine wpo_eqs (q := decide (r = Rt.zero)) rfl rfl (eqG_39 _ _ r Rt.zero _) (eqV_39 r Rt.zero _) rfl rfl ?_
 refine wpo_nil ?_
 refine wpf_cond rfl (fun h105 => ?_) (fun h105 => ?_)
 ·
  have h106 := of_decide_eq_true h105
  refine wpf_seq_region ?_
  refine wpo_assign (v := .bool true) rfl rfl ?_
  refine wpo_nil ?_
  refine wpf_ret ?_
  refine thn_r ?_
  refine ⟨.bool true, res1 rfl rfl, ?_, hb104⟩
  simp [rightOk, inR, Bool.and_assoc, h105]
 ·
  have h107 := of_decide_eq_false h105
  refine wpf_skip ?_
  refine thn_n ?_
  refine wpf_seq_region_mid (fun f' w' => (f' 2 = .bool (((((decide (1 ≤ r.th)) && (decide (r.th ≤ 8))) && (decide (0 ≤ r.ve))) && (decide (r.ve ≤ 5))) && (!(r.wk && r.wr)))) ∧ w102 = w') ?_ ?_
  ·
   refine wpo_fieldAddr (o' := 0) fo_39_0 rfl rfl rfl ?_
   refine wpo_load1 (v := .int .i64 r.th) ot_3 rfl (hN103.blk.cell rfl) rfl ?_
   refine wpo_geq (q := decide (1 ≤ r.th)) rfl rfl rfl rfl ?_
   refine wpo_move (v := .bool (decide (1 ≤ r.th))) rfl rfl ?_
   rcases bcases (decide (1 ≤ r.th)) with h108 | h108
   ·
    have h109 := of_decide_eq_true h108
    refine wpo_run rfl rfl rfl h108 ?_
    refine wpo_fieldAddr (o' := 0) fo_39_0 rfl rfl rfl ?_
    refine wpo_run rfl rfl rfl h108 ?_
    refine wpo_load1 (v := .int .i64 r.th) ot_3 rfl (hN103.blk.cell rfl) rfl ?_
    refine wpo_run rfl rfl rfl h108 ?_
    refine wpo_leq (q := decide (r.th ≤ 8)) rfl rfl rfl rfl ?_
    refine wpo_pickt (v := .bool (decide (r.th ≤ 8))) rfl h108 rfl rfl ?_
    refine wpo_move (v := .bool (decide (r.th ≤ 8))) rfl rfl ?_
    rcases bcases (decide (r.th ≤ 8)) with h110 | h110
    ·
     have h111 := of_decide_eq_true h110
     refine wpo_run rfl rfl rfl h110 ?_
     refine wpo_fieldAddr (o' := 1) fo_39_1 rfl rfl rfl ?_
     refine wpo_run rfl rfl rfl h110 ?_
     refine wpo_load1 (v := .int .i64 r.ve) ot_3 rfl (hN103.blk.cell rfl) rfl ?_
     refine wpo_run rfl rfl rfl h110 ?_
     refine wpo_geq (q := decide (0 ≤ r.ve)) rfl rfl rfl rfl ?_
     refine wpo_pickt (v := .bool (decide (0 ≤ r.ve))) rfl h110 rfl rfl ?_
     refine wpo_move (v := .bool (decide (0 ≤ r.ve))) rfl rfl ?_
     rcases bcases (decide (0 ≤ r.ve)) with h112 | h112
     ·
      have h113 := of_decide_eq_true h112
      refine wpo_run rfl rfl rfl h112 ?_
      refine wpo_fieldAddr (o' := 1) fo_39_1 rfl rfl rfl ?_
      refine wpo_run rfl rfl rfl h112 ?_
      refine wpo_load1 (v := .int .i64 r.ve) ot_3 rfl (hN103.blk.cell rfl) rfl ?_
      refine wpo_run rfl rfl rfl h112 ?_
      refine wpo_leq (q := decide (r.ve ≤ 5)) rfl rfl rfl rfl ?_
      refine wpo_pickt (v := .bool (decide (r.ve ≤ 5))) rfl h112 rfl rfl ?_
      refine wpo_move (v := .bool (decide (r.ve ≤ 5))) rfl rfl ?_
      rcases bcases (decide (r.ve ≤ 5)) with h114 | h114
      ·
       have h115 := of_decide_eq_true h114
       refine wpo_run rfl rfl rfl h114 ?_
       refine wpo_fieldAddr (o' := 4) fo_39_4 rfl rfl rfl ?_
       refine wpo_run rfl rfl rfl h114 ?_
       refine wpo_load1 (v := .bool r.wk) ot_4 rfl (hN103.blk.cell rfl) rfl ?_
       refine wpo_run rfl rfl rfl h114 ?_
       refine wpo_move (v := .bool r.wk) rfl rfl ?_
       rcases bcases (r.wk) with h116 | h116
       ·
        refine wpo_run rfl rfl rfl h116 ?_
        refine wpo_fieldAddr (o' := 3) fo_39_3 rfl rfl rfl ?_
        refine wpo_run rfl rfl rfl h116 ?_
        refine wpo_load1 (v := .bool r.wr) ot_4 rfl (hN103.blk.cell rfl) rfl ?_
        refine wpo_run rfl rfl rfl h114 ?_
        refine wpo_pickt (v := .bool r.wr) rfl h116 rfl rfl ?_
        refine wpo_run rfl rfl rfl h114 ?_
        refine wpo_not (b' := !r.wr) rfl rfl rfl ?_
        refine wpo_pickt (v := .bool (!r.wr)) rfl h114 rfl rfl ?_
        refine wpo_assign (v := .bool (!r.wr)) rfl rfl ?_
        exact wpo_nil ⟨(congrArg Value.bool (by first | (simp only [h105, h108, h110, h112, h114, h116, b0, b1, b2, b3, b4, b5, b6, b7, b8, b9]; done) | simp [h105, h108, h110, h112, h114, h116])), rfl⟩
       ·
        refine wpo_pass rfl rfl rfl h116 rfl ?_
        refine wpo_pass rfl rfl rfl h116 rfl ?_
        refine wpo_run rfl rfl rfl h114 ?_
        refine wpo_pickf (v := .bool false) rfl h116 rfl rfl ?_
        refine wpo_run rfl rfl rfl h114 ?_
        refine wpo_not (b' := true) rfl rfl rfl ?_
        refine wpo_pickt (v := .bool true) rfl h114 rfl rfl ?_
        refine wpo_assign (v := .bool true) rfl rfl ?_
        exact wpo_nil ⟨(congrArg Value.bool (by first | (simp only [h105, h108, h110, h112, h114, h116, b0, b1, b2, b3, b4, b5, b6, b7, b8, b9]; done) | simp [h105, h108, h110, h112, h114, h116])), rfl⟩
      ·
       have h117 := of_decide_eq_false h114
       iterate 3 refine wpo_pass rfl rfl rfl h114 rfl ?_
       refine wpo_passu rfl rfl rfl rfl ?_
       refine wpo_passu rfl rfl rfl rfl ?_
       refine wpo_pass rfl rfl rfl h114 rfl ?_
       refine wpo_pass rfl rfl rfl h114 rfl ?_
       refine wpo_pickf (v := .bool false) rfl h114 rfl rfl ?_
       refine wpo_assign (v := .bool false) rfl rfl ?_
       exact wpo_nil ⟨(congrArg Value.bool (by first | (simp only [h105, h108, h110, h112, h114, b0, b1, b2, b3, b4, b5, b6, b7, b8, b9]; done) | simp [h105, h108, h110, h112, h114])), rfl⟩
     ·
      have h118 := of_decide_eq_false h112
      iterate 3 refine wpo_pass rfl rfl rfl h112 rfl ?_
      refine wpo_pickf (v := .bool false) rfl h112 rfl rfl ?_
      refine wpo_move (v := .bool false) rfl rfl ?_
      iterate 3 refine wpo_pass rfl rfl rfl rfl rfl ?_
      refine wpo_passu rfl rfl rfl rfl ?_
      refine wpo_passu rfl rfl rfl rfl ?_
      refine wpo_pass rfl rfl rfl rfl rfl ?_
      refine wpo_pass rfl rfl rfl rfl rfl ?_
      refine wpo_pickf (v := .bool false) rfl rfl rfl rfl ?_
      refine wpo_assign (v := .bool false) rfl rfl ?_
      exact wpo_nil ⟨(congrArg Value.bool (by first | (simp only [h105, h108, h110, h112, b0, b1, b2, b3, b4, b5, b6, b7, b8, b9]; done) | simp [h105, h108, h110, h112])), rfl⟩
    ·
     have h119 := of_decide_eq_false h110
     iterate 3 refine wpo_pass rfl rfl rfl h110 rfl ?_
     refine wpo_pickf (v := .bool false) rfl h110 rfl rfl ?_
     refine wpo_move (v := .bool false) rfl rfl ?_
     iterate 3 refine wpo_pass rfl rfl rfl rfl rfl ?_
     refine wpo_pickf (v := .bool false) rfl rfl rfl rfl ?_
     refine wpo_move (v := .bool false) rfl rfl ?_
     iterate 3 refine wpo_pass rfl rfl rfl rfl rfl ?_
     refine wpo_passu rfl rfl rfl rfl ?_
     refine wpo_passu rfl rfl rfl rfl ?_
     refine wpo_pass rfl rfl rfl rfl rfl ?_
     refine wpo_pass rfl rfl rfl rfl rfl ?_
     refine wpo_pickf (v := .bool false) rfl rfl rfl rfl ?_
     refine wpo_assign (v := .bool false) rfl rfl ?_
     exact wpo_nil ⟨(congrArg Value.bool (by first | (simp only [h105, h108, h110, b0, b1, b2, b3, b4, b5, b6, b7, b8, b9]; done) | simp [h105, h108, h110])), rfl⟩
   ·
    have h120 := of_decide_eq_false h108
    iterate 3 refine wpo_pass rfl rfl rfl h108 rfl ?_
    refine wpo_pickf (v := .bool false) rfl h108 rfl rfl ?_
    refine wpo_move (v := .bool false) rfl rfl ?_
    iterate 3 refine wpo_pass rfl rfl rfl rfl rfl ?_
    refine wpo_pickf (v := .bool false) rfl rfl rfl rfl ?_
    refine wpo_move (v := .bool false) rfl rfl ?_
    iterate 3 refine wpo_pass rfl rfl rfl rfl rfl ?_
    refine wpo_pickf (v := .bool false) rfl rfl rfl rfl ?_
    refine wpo_move (v := .bool false) rfl rfl ?_
    iterate 3 refine wpo_pass rfl rfl rfl rfl rfl ?_
    refine wpo_passu rfl rfl rfl rfl ?_
    refine wpo_passu rfl rfl rfl rfl ?_
    refine wpo_pass rfl rfl rfl rfl rfl ?_
    refine wpo_pass rfl rfl rfl rfl rfl ?_
    refine wpo_pickf (v := .bool false) rfl rfl rfl rfl ?_
    refine wpo_assign (v := .bool false) rfl rfl ?_
    exact wpo_nil ⟨(congrArg Value.bool (by first | (simp only [h105, h108, b0, b1, b2, b3, b4, b5, b6, b7, b8, b9]; done) | simp [h105, h108])), rfl⟩
  ·
   rintro f121 w122 ⟨e123, rfl⟩
   refine wpf_ret ?_
   refine ⟨.bool (((((decide (1 ≤ r.th)) && (decide (r.th ≤ 8))) && (decide (0 ≤ r.ve))) && (decide (r.ve ≤ 5))) && (!(r.wk && r.wr))), res1 rfl e123, ?_, hb104⟩
   simp [rightOk, inR, Bool.and_assoc, h105]

end Go.Proofs.YtemimomfjapgiaaDoor
