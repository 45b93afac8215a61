/- Walks, printed by a program of mine (gen.py) out of the functions. -/
import Derived.Test.YtlkmdoebmklbbaaProg
import Derived.Test.YtlkmdoebmklbbaaR
namespace Go.Proofs.Ytlkmdoebmklbbaa
open Go.RowKit Go.Dw
set_option maxRecDepth 100000
set_option maxHeartbeats 4000000
set_option linter.unusedSimpArgs false
set_option linter.unusedVariables false
theorem fo_29_0 : fieldOff Try.prog 29 0 = some 0 := by kernel_rfl
theorem fo_29_1 : fieldOff Try.prog 29 1 = some 1 := by kernel_rfl
theorem fo_29_3 : fieldOff Try.prog 29 3 = some 3 := by kernel_rfl
theorem fo_29_4 : fieldOff Try.prog 29 4 = some 4 := by kernel_rfl
theorem fo_40_0 : fieldOff Try.prog 40 0 = some 0 := by kernel_rfl
theorem fo_40_1 : fieldOff Try.prog 40 1 = some 1 := by kernel_rfl
theorem gf_70 : goFn Try.prog 70 = true := by kernel_rfl
theorem gf_87 : goFn Try.prog 87 = true := by kernel_rfl
theorem gf_88 : goFn Try.prog 88 = true := by kernel_rfl
theorem ot_3 : oneTy Try.prog 3 = true := by kernel_rfl
theorem ot_4 : oneTy Try.prog 4 = true := by kernel_rfl
theorem rt_29 : rowTy Try.prog 29 = some 5 := by kernel_rfl
theorem rt_40 : rowTy Try.prog 40 = some 2 := by kernel_rfl
theorem mixed_ : Try.prog.follows .mixedOrders = true := by kernel_rfl
theorem eqG_29 (x y : Operand) (a b : Rt) (w : World) : (eqGuard .eql 29 x y (.agg a.cells.toArray) (.agg b.cells.toArray)).run Try.prog w = .ok () w := by kernel_rfl
theorem eqV_29 (a b : Rt) (w : World) : (binOp .eql 29 (.agg a.cells.toArray) (.agg b.cells.toArray)).run Try.prog w = .ok (.bool (decide (a = b))) w := by
  have h := run_equalIn_struct (P := Try.prog) w 9999 29 a.cells.toArray b.cells.toArray (by kernel_rfl) (by kernel_rfl)
  obtain ⟨a0, a1, a2, a3, a4⟩ := a
  obtain ⟨b0, b1, b2, b3, b4⟩ := b
  simp only [binOp, Op.equal, Op.maxDepth, Sem.run_bind, Rt.cells] at h ⊢
  rw [h]
  simp [go_sem]
  (repeat' split) <;> simp_all
theorem neG_29 (x y : Operand) (a b : Rt) (w : World) : (eqGuard .neq 29 x y (.agg a.cells.toArray) (.agg b.cells.toArray)).run Try.prog w = .ok () w := by kernel_rfl
theorem neV_29 (a b : Rt) (w : World) : (binOp .neq 29 (.agg a.cells.toArray) (.agg b.cells.toArray)).run Try.prog w = .ok (.bool (!decide (a = b))) w := by
  have h := eqV_29 a b w
  have h2 := run_equalIn_struct (P := Try.prog) w 9999 29 a.cells.toArray b.cells.toArray (by kernel_rfl) (by kernel_rfl)
  obtain ⟨a0, a1, a2, a3, a4⟩ := a
  obtain ⟨b0, b1, b2, b3, b4⟩ := b
  simp only [binOp, Op.equal, Op.maxDepth, Sem.run_bind, Rt.cells] at h h2 ⊢
  rw [h2] at h ⊢
  revert h
  simp [go_sem]
  (repeat' split) <;> simp_all
theorem eqG_40 (x y : Operand) (a b : Lab) (w : World) : (eqGuard .eql 40 x y (.agg a.cells.toArray) (.agg b.cells.toArray)).run Try.prog w = .ok () w := by kernel_rfl
theorem eqV_40 (a b : Lab) (w : World) : (binOp .eql 40 (.agg a.cells.toArray) (.agg b.cells.toArray)).run Try.prog w = .ok (.bool (decide (a = b))) w := by
  have h := run_equalIn_struct (P := Try.prog) w 9999 40 a.cells.toArray b.cells.toArray (by kernel_rfl) (by kernel_rfl)
  obtain ⟨a0, a1⟩ := a
  obtain ⟨b0, b1⟩ := b
  simp only [binOp, Op.equal, Op.maxDepth, Sem.run_bind, Lab.cells] at h ⊢
  rw [h]
  simp [go_sem]
  (repeat' split) <;> simp_all
theorem neG_40 (x y : Operand) (a b : Lab) (w : World) : (eqGuard .neq 40 x y (.agg a.cells.toArray) (.agg b.cells.toArray)).run Try.prog w = .ok () w := by kernel_rfl
theorem neV_40 (a b : Lab) (w : World) : (binOp .neq 40 (.agg a.cells.toArray) (.agg b.cells.toArray)).run Try.prog w = .ok (.bool (!decide (a = b))) w := by
  have h := eqV_40 a b w
  have h2 := run_equalIn_struct (P := Try.prog) w 9999 40 a.cells.toArray b.cells.toArray (by kernel_rfl) (by kernel_rfl)
  obtain ⟨a0, a1⟩ := a
  obtain ⟨b0, b1⟩ := b
  simp only [binOp, Op.equal, Op.maxDepth, Sem.run_bind, Lab.cells] at h h2 ⊢
  rw [h2] at h ⊢
  revert h
  simp [go_sem]
  (repeat' split) <;> simp_all
theorem LabelOk_c (l : Lab) (w : World) : CallsR Try.prog 70 #[.agg #[.int .i64 l.s, .int .i64 l.v]] w (fun v w' => v = .bool (labelOk l) ∧ w.grownBy w' none) := by
 refine calls_of_wpf (n := 21) Try.func70 rfl Try.ntmps70 rfl ?_
 have hb0 := World.grownBy.refl w none
 refine wpf_seq_region ?_
 refine wpo_box (v := .agg #[.int .i64 l.s, .int .i64 l.v]) (cs := #[.int .i64 l.s, .int .i64 l.v]) rfl rfl rfl ?_
 intro B1 w2 hN3
 have hlB1 := hN_ge hN3 hb0
 have hb4 := low0 hb0 hN3.grw
 refine wpo_assign (v := .bool false) rfl rfl ?_
 refine wpo_nil ?_
 refine wpf_seq_region_mid (fun f' w' => (f' 2 = .bool ((((decide (0 ≤ l.s)) && (decide (l.s ≤ 3))) && (decide (0 ≤ l.v))) && (decide (l.v ≤ 3)))) ∧ w2 = w') ?_ ?_
 ·
  refine wpo_fieldAddr (o' := 0) fo_40_0 rfl rfl rfl ?_
  refine wpo_load1 (v := .int .i64 l.s) ot_3 rfl (hN3.blk.cell rfl) rfl ?_
  refine wpo_geq (q := decide (0 ≤ l.s)) rfl rfl rfl rfl ?_
  refine wpo_move (v := .bool (decide (0 ≤ l.s))) rfl rfl ?_
  rcases bcases (decide (0 ≤ l.s)) with h5 | h5
  ·
   have h6 := of_decide_eq_true h5
   refine wpo_run rfl rfl rfl h5 ?_
   refine wpo_fieldAddr (o' := 0) fo_40_0 rfl rfl rfl ?_
   refine wpo_run rfl rfl rfl h5 ?_
   refine wpo_load1 (v := .int .i64 l.s) ot_3 rfl (hN3.blk.cell rfl) rfl ?_
   refine wpo_run rfl rfl rfl h5 ?_
   refine wpo_leq (q := decide (l.s ≤ 3)) rfl rfl rfl rfl ?_
   refine wpo_pickt (v := .bool (decide (l.s ≤ 3))) rfl h5 rfl rfl ?_
   refine wpo_move (v := .bool (decide (l.s ≤ 3))) rfl rfl ?_
   rcases bcases (decide (l.s ≤ 3)) with h7 | h7
   ·
    have h8 := of_decide_eq_true h7
    refine wpo_run rfl rfl rfl h7 ?_
    refine wpo_fieldAddr (o' := 1) fo_40_1 rfl rfl rfl ?_
    refine wpo_run rfl rfl rfl h7 ?_
    refine wpo_load1 (v := .int .i64 l.v) ot_3 rfl (hN3.blk.cell rfl) rfl ?_
    refine wpo_run rfl rfl rfl h7 ?_
    refine wpo_geq (q := decide (0 ≤ l.v)) rfl rfl rfl rfl ?_
    refine wpo_pickt (v := .bool (decide (0 ≤ l.v))) rfl h7 rfl rfl ?_
    refine wpo_move (v := .bool (decide (0 ≤ l.v))) rfl rfl ?_
    rcases bcases (decide (0 ≤ l.v)) with h9 | h9
    ·
     have h10 := of_decide_eq_true h9
     refine wpo_run rfl rfl rfl h9 ?_
     refine wpo_fieldAddr (o' := 1) fo_40_1 rfl rfl rfl ?_
     refine wpo_run rfl rfl rfl h9 ?_
     refine wpo_load1 (v := .int .i64 l.v) ot_3 rfl (hN3.blk.cell rfl) rfl ?_
     refine wpo_run rfl rfl rfl h9 ?_
     refine wpo_leq (q := decide (l.v ≤ 3)) rfl rfl rfl rfl ?_
     refine wpo_pickt (v := .bool (decide (l.v ≤ 3))) rfl h9 rfl rfl ?_
     refine wpo_assign (v := .bool (decide (l.v ≤ 3))) rfl rfl ?_
     exact wpo_nil ⟨(congrArg Value.bool (by first | (simp only [h5, h7, h9, b0, b1, b2, b3, b4, b5, b6, b7, b8, b9]; done) | simp [h5, h7, h9])), rfl⟩
    ·
     have h11 := of_decide_eq_false h9
     iterate 3 refine wpo_pass rfl rfl rfl h9 rfl ?_
     refine wpo_pickf (v := .bool false) rfl h9 rfl rfl ?_
     refine wpo_assign (v := .bool false) rfl rfl ?_
     exact wpo_nil ⟨(congrArg Value.bool (by first | (simp only [h5, h7, h9, b0, b1, b2, b3, b4, b5, b6, b7, b8, b9]; done) | simp [h5, h7, h9])), rfl⟩
   ·
    have h12 := of_decide_eq_false h7
    iterate 3 refine wpo_pass rfl rfl rfl h7 rfl ?_
    refine wpo_pickf (v := .bool false) rfl h7 rfl rfl ?_
    refine wpo_move (v := .bool false) rfl rfl ?_
    iterate 3 refine wpo_pass rfl rfl rfl rfl rfl ?_
    refine wpo_pickf (v := .bool false) rfl rfl rfl rfl ?_
    refine wpo_assign (v := .bool false) rfl rfl ?_
    exact wpo_nil ⟨(congrArg Value.bool (by first | (simp only [h5, h7, b0, b1, b2, b3, b4, b5, b6, b7, b8, b9]; done) | simp [h5, h7])), rfl⟩
  ·
   have h13 := of_decide_eq_false h5
   iterate 3 refine wpo_pass rfl rfl rfl h5 rfl ?_
   refine wpo_pickf (v := .bool false) rfl h5 rfl rfl ?_
   refine wpo_move (v := .bool false) rfl rfl ?_
   iterate 3 refine wpo_pass rfl rfl rfl rfl rfl ?_
   refine wpo_pickf (v := .bool false) rfl rfl rfl rfl ?_
   refine wpo_move (v := .bool false) rfl rfl ?_
   iterate 3 refine wpo_pass rfl rfl rfl rfl rfl ?_
   refine wpo_pickf (v := .bool false) rfl rfl rfl rfl ?_
   refine wpo_assign (v := .bool false) rfl rfl ?_
   exact wpo_nil ⟨(congrArg Value.bool (by first | (simp only [h5, b0, b1, b2, b3, b4, b5, b6, b7, b8, b9]; done) | simp [h5])), rfl⟩
 ·
  rintro f14 w15 ⟨e16, rfl⟩
  refine wpf_ret ?_
  refine ⟨.bool ((((decide (0 ≤ l.s)) && (decide (l.s ≤ 3))) && (decide (0 ≤ l.v))) && (decide (l.v ≤ 3))), res1 rfl e16, ?_, hb4⟩
  simp [labelOk, inR, Bool.and_assoc]

theorem labelSets_c (l : Lab) (hl : labelOk l = true) (w : World) : CallsR Try.prog 87 #[.agg #[.int .i64 l.s, .int .i64 l.v]] w (fun v w' => v = .tuple #[.int .u64 l.s, .int .u64 l.v] ∧ w.grownBy w' none) := by
 refine calls_of_wpf (n := 10) Try.func87 rfl Try.ntmps87 rfl ?_
 have hb0 := World.grownBy.refl w none
 obtain ⟨⟨hl1, hl2⟩, hl3, hl4⟩ := (labelOk_iff l).1 hl
 refine wpf_seq_region ?_
 refine wpo_box (v := .agg #[.int .i64 l.s, .int .i64 l.v]) (cs := #[.int .i64 l.s, .int .i64 l.v]) rfl rfl rfl ?_
 intro B17 w18 hN19
 have hlB17 := hN_ge hN19 hb0
 have hb20 := low0 hb0 hN19.grw
 refine wpo_assign (v := .int .u64 0) rfl rfl ?_
 refine wpo_assign (v := .int .u64 0) rfl rfl ?_
 refine wpo_nil ?_
 refine wpf_seq ?_
 refine wpf_draw (m := 7) (vals := [(4, .pointer (some ⟨B17, 0, none⟩)), (5, .int .i64 l.s), (6, .int .u64 l.s), (7, .pointer (some ⟨B17, 1, none⟩)), (8, .int .i64 l.v), (9, .int .u64 l.v), (2, .int .u64 l.s)]) (fun w' => w18.grownBy w' none) mixed_ (by kernel_rfl) (grown_drew _) ?_ ?_
 ·
  refine yll_cons rfl (fun w21 hi22 => ?_) ?_
  ·
   have hb23 := low0 hb20 hi22
   refine wpo_fieldAddr (o' := 0) fo_40_0 rfl rfl rfl ?_
   exact wpo_nil ⟨rfl, hi22⟩
  refine yll_cons rfl (fun w24 hi25 => ?_) ?_
  ·
   have hb26 := low0 hb20 hi25
   have k27 := (hN19.blk.grown0 hi25)
   refine wpo_load1 (v := .int .i64 l.s) ot_3 rfl (k27.cell rfl) rfl ?_
   exact wpo_nil ⟨rfl, hi25⟩
  refine yll_cons rfl (fun w28 hi29 => ?_) ?_
  ·
   have hb30 := low0 hb20 hi29
   refine wpo_conv (P := Try.prog) (k' := .u64) rfl (by kernel_rfl) (by kernel_rfl) (conv_u64 (by omega) (by omega)) rfl ?_
   exact wpo_nil ⟨rfl, hi29⟩
  refine yll_cons rfl (fun w31 hi32 => ?_) ?_
  ·
   have hb33 := low0 hb20 hi32
   refine wpo_fieldAddr (o' := 1) fo_40_1 rfl rfl rfl ?_
   exact wpo_nil ⟨rfl, hi32⟩
  refine yll_cons rfl (fun w34 hi35 => ?_) ?_
  ·
   have hb36 := low0 hb20 hi35
   have k37 := (hN19.blk.grown0 hi35)
   refine wpo_load1 (v := .int .i64 l.v) ot_3 rfl (k37.cell rfl) rfl ?_
   exact wpo_nil ⟨rfl, hi35⟩
  refine yll_cons rfl (fun w38 hi39 => ?_) ?_
  ·
   have hb40 := low0 hb20 hi39
   refine wpo_conv (P := Try.prog) (k' := .u64) rfl (by kernel_rfl) (by kernel_rfl) (conv_u64 (by omega) (by omega)) rfl ?_
   exact wpo_nil ⟨rfl, hi39⟩
  refine yll_cons rfl (fun w41 hi42 => ?_) ?_
  ·
   have hb43 := low0 hb20 hi42
   refine wpo_assign (v := .int .u64 l.s) rfl rfl ?_
   exact wpo_nil ⟨rfl, hi42⟩
  exact yll_nil
 ·
  intro w44 hi45
  have hb46 := low0 hb20 hi45
  refine wpo_assign (v := .int .u64 l.v) rfl rfl ?_
  refine wpo_nil ?_
  refine thn_n ?_
  refine wpf_ret ?_
  refine ⟨.tuple #[.int .u64 l.s, .int .u64 l.v], res2 rfl rfl rfl, ?_, hb46⟩
  rfl

theorem within_c (a b : Int) (w : World) : CallsR Try.prog 88 #[.int .u64 a, .int .u64 b] w (fun v w' => v = .bool (decide (bits .andNot .u64 a b = 0)) ∧ w.grownBy w' none) := by
 refine calls_of_wpf (n := 9) Try.func88 rfl Try.ntmps88 rfl ?_
 have hb0 := World.grownBy.refl w none
 refine wpf_seq_region ?_
 refine wpo_assign (v := .bool false) rfl rfl ?_
 refine wpo_nil ?_
 refine wpf_seq_region ?_
 refine wpo_move (v := .int .u64 a) rfl rfl ?_
 refine wpo_move (v := .int .u64 b) rfl rfl ?_
 refine wpo_bin (u := .int .u64 a) (u' := .int .u64 b) (v := .int .u64 (bits .andNot .u64 a b)) rfl rfl (by rw [binOp_andNot, intBits_andNot]; rfl) (fun _ _ => eqGuard_at_int ..) rfl ?_
 refine wpo_eql (q := decide (bits .andNot .u64 a b = 0)) rfl rfl rfl rfl ?_
 refine wpo_assign (v := .bool (decide (bits .andNot .u64 a b = 0))) rfl rfl ?_
 refine wpo_nil ?_
 refine wpf_ret ?_
 refine ⟨.bool (decide (bits .andNot .u64 a b = 0)), res1 rfl rfl, ?_, hb0⟩
 rfl

theorem LabelFlow_c (a b : Lab) (w : World) : CallsR Try.prog 36 #[.agg #[.int .i64 a.s, .int .i64 a.v], .agg #[.int .i64 b.s, .int .i64 b.v]] w (fun v w' => v = .bool (labelFlow a b) ∧ w.grownBy w' none) := by
 refine calls_of_wpf (n := 35) Try.func36 rfl Try.ntmps36 rfl ?_
 have hb0 := World.grownBy.refl w none
 refine wpf_seq_region ?_
 refine wpo_box (v := .agg #[.int .i64 a.s, .int .i64 a.v]) (cs := #[.int .i64 a.s, .int .i64 a.v]) rfl rfl rfl ?_
 intro B47 w48 hN49
 have hlB47 := hN_ge hN49 hb0
 have hb50 := low0 hb0 hN49.grw
 refine wpo_box (v := .agg #[.int .i64 b.s, .int .i64 b.v]) (cs := #[.int .i64 b.s, .int .i64 b.v]) rfl rfl rfl ?_
 intro B51 w52 hN53
 have hlB51 := hN_ge hN53 hb50
 have lt_B47_B51 := hN_gtl hN53 (hN49.blk).lt
 have hb54 := low0 hb50 hN53.grw
 refine wpo_assign (v := .bool false) rfl rfl ?_
 refine wpo_nil ?_
 refine wpf_seq ?_
 refine wpf_seq_region_mid (fun f' w' => (f' 2 = .pointer (some ⟨B47, 0, none⟩) ∧ f' 3 = .pointer (some ⟨B51, 0, none⟩) ∧ f' 4 = .bool false ∧ f' 16 = .bool ((!labelOk a) || (!labelOk b))) ∧ w52.grownBy w' none) ?_ ?_
 ·
  have k67 := (hN49.blk.grown0 hN53.grw)
  refine wpo_loadn (vs := [.int .i64 a.s, .int .i64 a.v]) rt_40 rfl rfl (k67.rangeL 0 2 rfl) rfl ?_
  refine wpo_call (vs := [.agg #[.int .i64 a.s, .int .i64 a.v]]) gf_70 (args_cons rfl args_nil) rfl (LabelOk_c a _) ?_
  rintro _ w68 ⟨rfl, hg69⟩
  have hb70 := low0 hb54 hg69
  refine wpo_not (b' := !labelOk a) rfl rfl rfl ?_
  refine wpo_move (v := .bool (!labelOk a)) rfl rfl ?_
  rcases bcases (!labelOk a) with h71 | h71
  ·
   have h72 := nt_t h71
   iterate 3 refine wpo_pass rfl rfl rfl h71 rfl ?_
   refine wpo_pickt (v := .bool true) rfl h71 rfl rfl ?_
   exact wpo_nil ⟨⟨rfl, rfl, rfl, (congrArg Value.bool (by first | (simp only [h71, h72, b0, b1, b2, b3, b4, b5, b6, b7, b8, b9]; done) | simp [h71, h72]))⟩, hg69⟩
  ·
   have h73 := nt_f h71
   refine wpo_run rfl rfl rfl h71 ?_
   have k74 := (hN53.blk.grown0 hg69)
   refine wpo_loadn (vs := [.int .i64 b.s, .int .i64 b.v]) rt_40 rfl rfl (k74.rangeL 0 2 rfl) rfl ?_
   refine wpo_run rfl rfl rfl h71 ?_
   refine wpo_call (vs := [.agg #[.int .i64 b.s, .int .i64 b.v]]) gf_70 (args_cons rfl args_nil) rfl (LabelOk_c b _) ?_
   rintro _ w75 ⟨rfl, hg76⟩
   have hb77 := low0 hb70 hg76
   refine wpo_run rfl rfl rfl h71 ?_
   refine wpo_not (b' := !labelOk b) rfl rfl rfl ?_
   refine wpo_pickf (v := .bool (!labelOk b)) rfl h71 rfl rfl ?_
   exact wpo_nil ⟨⟨rfl, rfl, rfl, (congrArg Value.bool (by first | (simp only [h71, h73, b0, b1, b2, b3, b4, b5, b6, b7, b8, b9]; done) | simp [h71, h73]))⟩, (grown_trans hg69 hg76)⟩
 ·
  rintro f78 w79 ⟨⟨e80, e81, e82, e83⟩, hg84⟩
  have hb85 := low0 hb54 hg84
  refine wpf_cond e83 (fun h86 => ?_) (fun h86 => ?_)
  ·
   refine wpf_seq_region ?_
   refine wpo_assign (v := .bool false) rfl rfl ?_
   refine wpo_nil ?_
   refine wpf_ret ?_
   refine thn_r ?_
   refine ⟨.bool false, res1 rfl rfl, ?_, hb85⟩
   exact congrArg Value.bool (labelFlow_no h86).symm
  ·
   have h87 := or_l h86
   have h88 := nt_f h87
   have h89 := or_r h86
   have h90 := nt_f h89
   refine wpf_skip ?_
   refine thn_n ?_
   refine wpf_seq_region ?_
   have k91 := ((hN49.blk.grown0 hN53.grw).grown0 hg84)
   refine wpo_loadn (vs := [.int .i64 a.s, .int .i64 a.v]) rt_40 e80 rfl (k91.rangeL 0 2 rfl) rfl ?_
   refine wpo_call (vs := [.agg #[.int .i64 a.s, .int .i64 a.v]]) gf_87 (args_cons rfl args_nil) rfl (labelSets_c a h88 _) ?_
   rintro _ w92 ⟨rfl, hg93⟩
   have hb94 := low0 hb85 hg93
   refine wpo_move (v := .tuple #[.int .u64 a.s, .int .u64 a.v]) rfl rfl ?_
   refine wpo_extract (v := .int .u64 a.s) rfl rfl rfl ?_
   refine wpo_extract (v := .int .u64 a.v) rfl rfl rfl ?_
   refine wpo_assign (v := .int .u64 a.s) rfl rfl ?_
   refine wpo_assign (v := .int .u64 a.v) rfl rfl ?_
   refine wpo_nil ?_
   refine wpf_seq_region ?_
   have k95 := ((hN53.blk.grown0 hg84).grown0 hg93)
   refine wpo_loadn (vs := [.int .i64 b.s, .int .i64 b.v]) rt_40 e81 rfl (k95.rangeL 0 2 rfl) rfl ?_
   refine wpo_call (vs := [.agg #[.int .i64 b.s, .int .i64 b.v]]) gf_87 (args_cons rfl args_nil) rfl (labelSets_c b h90 _) ?_
   rintro _ w96 ⟨rfl, hg97⟩
   have hb98 := low0 hb94 hg97
   refine wpo_move (v := .tuple #[.int .u64 b.s, .int .u64 b.v]) rfl rfl ?_
   refine wpo_extract (v := .int .u64 b.s) rfl rfl rfl ?_
   refine wpo_extract (v := .int .u64 b.v) rfl rfl rfl ?_
   refine wpo_assign (v := .int .u64 b.s) rfl rfl ?_
   refine wpo_assign (v := .int .u64 b.v) rfl rfl ?_
   refine wpo_nil ?_
   refine wpf_seq_region_mid (fun f' w' => (f' 4 = .bool ((decide (bits .andNot .u64 a.s b.s = 0)) && (decide (bits .andNot .u64 b.v a.v = 0)))) ∧ w96.grownBy w' none) ?_ ?_
   ·
    refine wpo_move (v := .int .u64 a.s) rfl rfl ?_
    refine wpo_move (v := .int .u64 b.s) rfl rfl ?_
    refine wpo_call (vs := [.int .u64 a.s, .int .u64 b.s]) gf_88 (args_cons rfl (args_cons rfl args_nil)) rfl (within_c a.s b.s _) ?_
    rintro _ w108 ⟨rfl, hg109⟩
    have hb110 := low0 hb98 hg109
    refine wpo_move (v := .bool (decide (bits .andNot .u64 a.s b.s = 0))) rfl rfl ?_
    rcases bcases (decide (bits .andNot .u64 a.s b.s = 0)) with h111 | h111
    ·
     have h112 := of_decide_eq_true h111
     refine wpo_run rfl rfl rfl h111 ?_
     refine wpo_move (v := .int .u64 b.v) rfl rfl ?_
     refine wpo_run rfl rfl rfl h111 ?_
     refine wpo_move (v := .int .u64 a.v) rfl rfl ?_
     refine wpo_run rfl rfl rfl h111 ?_
     refine wpo_call (vs := [.int .u64 b.v, .int .u64 a.v]) gf_88 (args_cons rfl (args_cons rfl args_nil)) rfl (within_c b.v a.v _) ?_
     rintro _ w113 ⟨rfl, hg114⟩
     have hb115 := low0 hb110 hg114
     refine wpo_pickt (v := .bool (decide (bits .andNot .u64 b.v a.v = 0))) rfl h111 rfl rfl ?_
     refine wpo_assign (v := .bool (decide (bits .andNot .u64 b.v a.v = 0))) rfl rfl ?_
     exact wpo_nil ⟨(congrArg Value.bool (by first | (simp only [h111, h86, h87, h88, h89, h90, b0, b1, b2, b3, b4, b5, b6, b7, b8, b9]; done) | simp [h111, h86, h87, h88, h89, h90])), (grown_trans hg109 hg114)⟩
    ·
     have h116 := of_decide_eq_false h111
     iterate 3 refine wpo_pass rfl rfl rfl h111 rfl ?_
     refine wpo_pickf (v := .bool false) rfl h111 rfl rfl ?_
     refine wpo_assign (v := .bool false) rfl rfl ?_
     exact wpo_nil ⟨(congrArg Value.bool (by first | (simp only [h111, h86, h87, h88, h89, h90, b0, b1, b2, b3, b4, b5, b6, b7, b8, b9]; done) | simp [h111, h86, h87, h88, h89, h90])), hg109⟩
   ·
    rintro f117 w118 ⟨e119, hg120⟩
    have hb121 := low0 hb98 hg120
    refine wpf_ret ?_
    refine ⟨.bool ((decide (bits .andNot .u64 a.s b.s = 0)) && (decide (bits .andNot .u64 b.v a.v = 0))), res1 rfl e119, ?_, hb121⟩
    exact congrArg Value.bool (labelFlow_yes h88 h90)

theorem RightOk_c (r : Rt) (w : World) : CallsR Try.prog 20 #[.agg #[.int .i64 r.th, .int .i64 r.ve, .bool r.rd, .bool r.wr, .bool r.wk]] w (fun v w' => v = .bool (rightOk r) ∧ w.grownBy w' none) := by
 refine calls_of_wpf (n := 33) Try.func20 rfl Try.ntmps20 rfl ?_
 have hb0 := World.grownBy.refl w none
 refine wpf_seq_region ?_
 refine wpo_box (v := .agg #[.int .i64 r.th, .int .i64 r.ve, .bool r.rd, .bool r.wr, .bool r.wk]) (cs := #[.int .i64 r.th, .int .i64 r.ve, .bool r.rd, .bool r.wr, .bool r.wk]) rfl rfl rfl ?_
 intro B122 w123 hN124
 have hlB122 := hN_ge hN124 hb0
 have hb125 := low0 hb0 hN124.grw
 refine wpo_assign (v := .bool false) rfl rfl ?_
 refine wpo_nil ?_
 refine wpf_seq ?_
 refine wpf_seq_region ?_
 refine wpo_loadn (vs := [.int .i64 r.th, .int .i64 r.ve, .bool r.rd, .bool r.wr, .bool r.wk]) rt_29 rfl rfl (hN124.blk.rangeL 0 5 rfl) rfl ?_
 refine wpo_build (ps := []) (v := .agg #[.int .i64 0, .int .i64 0, .bool false, .bool false, .bool false]) parts_nil (by kernel_rfl) rfl ?_
 refine wpo_eqs (q := decide (r = Rt.zero)) rfl rfl (eqG_29 _ _ r Rt.zero _) (eqV_29 r Rt.zero _) rfl rfl ?_
 refine wpo_nil ?_
 refine wpf_cond rfl (fun h126 => ?_) (fun h126 => ?_)
 ·
  have h127 := of_decide_eq_true h126
  refine wpf_seq_region ?_
  refine wpo_assign (v := .bool true) rfl rfl ?_
  refine wpo_nil ?_
  refine wpf_ret ?_
  refine thn_r ?_
  refine ⟨.bool true, res1 rfl rfl, ?_, hb125⟩
  simp [rightOk, inR, Bool.and_assoc, h126]
 ·
  have h128 := of_decide_eq_false h126
  refine wpf_skip ?_
  refine thn_n ?_
  refine wpf_seq_region_mid (fun f' w' => (f' 2 = .bool (((((decide (1 ≤ r.th)) && (decide (r.th ≤ 8))) && (decide (0 ≤ r.ve))) && (decide (r.ve ≤ 5))) && (!(r.wk && r.wr)))) ∧ w123 = w') ?_ ?_
  ·
   refine wpo_fieldAddr (o' := 0) fo_29_0 rfl rfl rfl ?_
   refine wpo_load1 (v := .int .i64 r.th) ot_3 rfl (hN124.blk.cell rfl) rfl ?_
   refine wpo_geq (q := decide (1 ≤ r.th)) rfl rfl rfl rfl ?_
   refine wpo_move (v := .bool (decide (1 ≤ r.th))) rfl rfl ?_
   rcases bcases (decide (1 ≤ r.th)) with h129 | h129
   ·
    have h130 := of_decide_eq_true h129
    refine wpo_run rfl rfl rfl h129 ?_
    refine wpo_fieldAddr (o' := 0) fo_29_0 rfl rfl rfl ?_
    refine wpo_run rfl rfl rfl h129 ?_
    refine wpo_load1 (v := .int .i64 r.th) ot_3 rfl (hN124.blk.cell rfl) rfl ?_
    refine wpo_run rfl rfl rfl h129 ?_
    refine wpo_leq (q := decide (r.th ≤ 8)) rfl rfl rfl rfl ?_
    refine wpo_pickt (v := .bool (decide (r.th ≤ 8))) rfl h129 rfl rfl ?_
    refine wpo_move (v := .bool (decide (r.th ≤ 8))) rfl rfl ?_
    rcases bcases (decide (r.th ≤ 8)) with h131 | h131
    ·
     have h132 := of_decide_eq_true h131
     refine wpo_run rfl rfl rfl h131 ?_
     refine wpo_fieldAddr (o' := 1) fo_29_1 rfl rfl rfl ?_
     refine wpo_run rfl rfl rfl h131 ?_
     refine wpo_load1 (v := .int .i64 r.ve) ot_3 rfl (hN124.blk.cell rfl) rfl ?_
     refine wpo_run rfl rfl rfl h131 ?_
     refine wpo_geq (q := decide (0 ≤ r.ve)) rfl rfl rfl rfl ?_
     refine wpo_pickt (v := .bool (decide (0 ≤ r.ve))) rfl h131 rfl rfl ?_
     refine wpo_move (v := .bool (decide (0 ≤ r.ve))) rfl rfl ?_
     rcases bcases (decide (0 ≤ r.ve)) with h133 | h133
     ·
      have h134 := of_decide_eq_true h133
      refine wpo_run rfl rfl rfl h133 ?_
      refine wpo_fieldAddr (o' := 1) fo_29_1 rfl rfl rfl ?_
      refine wpo_run rfl rfl rfl h133 ?_
      refine wpo_load1 (v := .int .i64 r.ve) ot_3 rfl (hN124.blk.cell rfl) rfl ?_
      refine wpo_run rfl rfl rfl h133 ?_
      refine wpo_leq (q := decide (r.ve ≤ 5)) rfl rfl rfl rfl ?_
      refine wpo_pickt (v := .bool (decide (r.ve ≤ 5))) rfl h133 rfl rfl ?_
      refine wpo_move (v := .bool (decide (r.ve ≤ 5))) rfl rfl ?_
      rcases bcases (decide (r.ve ≤ 5)) with h135 | h135
      ·
       have h136 := of_decide_eq_true h135
       refine wpo_run rfl rfl rfl h135 ?_
       refine wpo_fieldAddr (o' := 4) fo_29_4 rfl rfl rfl ?_
       refine wpo_run rfl rfl rfl h135 ?_
       refine wpo_load1 (v := .bool r.wk) ot_4 rfl (hN124.blk.cell rfl) rfl ?_
       refine wpo_run rfl rfl rfl h135 ?_
       refine wpo_move (v := .bool r.wk) rfl rfl ?_
       rcases bcases (r.wk) with h137 | h137
       ·
        refine wpo_run rfl rfl rfl h137 ?_
        refine wpo_fieldAddr (o' := 3) fo_29_3 rfl rfl rfl ?_
        refine wpo_run rfl rfl rfl h137 ?_
        refine wpo_load1 (v := .bool r.wr) ot_4 rfl (hN124.blk.cell rfl) rfl ?_
        refine wpo_run rfl rfl rfl h135 ?_
        refine wpo_pickt (v := .bool r.wr) rfl h137 rfl rfl ?_
        refine wpo_run rfl rfl rfl h135 ?_
        refine wpo_not (b' := !r.wr) rfl rfl rfl ?_
        refine wpo_pickt (v := .bool (!r.wr)) rfl h135 rfl rfl ?_
        refine wpo_assign (v := .bool (!r.wr)) rfl rfl ?_
        exact wpo_nil ⟨(congrArg Value.bool (by first | (simp only [h126, h129, h131, h133, h135, h137, b0, b1, b2, b3, b4, b5, b6, b7, b8, b9]; done) | simp [h126, h129, h131, h133, h135, h137])), rfl⟩
       ·
        refine wpo_pass rfl rfl rfl h137 rfl ?_
        refine wpo_pass rfl rfl rfl h137 rfl ?_
        refine wpo_run rfl rfl rfl h135 ?_
        refine wpo_pickf (v := .bool false) rfl h137 rfl rfl ?_
        refine wpo_run rfl rfl rfl h135 ?_
        refine wpo_not (b' := true) rfl rfl rfl ?_
        refine wpo_pickt (v := .bool true) rfl h135 rfl rfl ?_
        refine wpo_assign (v := .bool true) rfl rfl ?_
        exact wpo_nil ⟨(congrArg Value.bool (by first | (simp only [h126, h129, h131, h133, h135, h137, b0, b1, b2, b3, b4, b5, b6, b7, b8, b9]; done) | simp [h126, h129, h131, h133, h135, h137])), rfl⟩
      ·
       have h138 := of_decide_eq_false h135
       iterate 3 refine wpo_pass rfl rfl rfl h135 rfl ?_
       refine wpo_passu rfl rfl rfl rfl ?_
       refine wpo_passu rfl rfl rfl rfl ?_
       refine wpo_pass rfl rfl rfl h135 rfl ?_
       refine wpo_pass rfl rfl rfl h135 rfl ?_
       refine wpo_pickf (v := .bool false) rfl h135 rfl rfl ?_
       refine wpo_assign (v := .bool false) rfl rfl ?_
       exact wpo_nil ⟨(congrArg Value.bool (by first | (simp only [h126, h129, h131, h133, h135, b0, b1, b2, b3, b4, b5, b6, b7, b8, b9]; done) | simp [h126, h129, h131, h133, h135])), rfl⟩
     ·
      have h139 := of_decide_eq_false h133
      iterate 3 refine wpo_pass rfl rfl rfl h133 rfl ?_
      refine wpo_pickf (v := .bool false) rfl h133 rfl rfl ?_
      refine wpo_move (v := .bool false) rfl rfl ?_
      iterate 3 refine wpo_pass rfl rfl rfl rfl rfl ?_
      refine wpo_passu rfl rfl rfl rfl ?_
      refine wpo_passu rfl rfl rfl rfl ?_
      refine wpo_pass rfl rfl rfl rfl rfl ?_
      refine wpo_pass rfl rfl rfl rfl rfl ?_
      refine wpo_pickf (v := .bool false) rfl rfl rfl rfl ?_
      refine wpo_assign (v := .bool false) rfl rfl ?_
      exact wpo_nil ⟨(congrArg Value.bool (by first | (simp only [h126, h129, h131, h133, b0, b1, b2, b3, b4, b5, b6, b7, b8, b9]; done) | simp [h126, h129, h131, h133])), rfl⟩
    ·
     have h140 := of_decide_eq_false h131
     iterate 3 refine wpo_pass rfl rfl rfl h131 rfl ?_
     refine wpo_pickf (v := .bool false) rfl h131 rfl rfl ?_
     refine wpo_move (v := .bool false) rfl rfl ?_
     iterate 3 refine wpo_pass rfl rfl rfl rfl rfl ?_
     refine wpo_pickf (v := .bool false) rfl rfl rfl rfl ?_
     refine wpo_move (v := .bool false) rfl rfl ?_
     iterate 3 refine wpo_pass rfl rfl rfl rfl rfl ?_
     refine wpo_passu rfl rfl rfl rfl ?_
     refine wpo_passu rfl rfl rfl rfl ?_
     refine wpo_pass rfl rfl rfl rfl rfl ?_
     refine wpo_pass rfl rfl rfl rfl rfl ?_
     refine wpo_pickf (v := .bool false) rfl rfl rfl rfl ?_
     refine wpo_assign (v := .bool false) rfl rfl ?_
     exact wpo_nil ⟨(congrArg Value.bool (by first | (simp only [h126, h129, h131, b0, b1, b2, b3, b4, b5, b6, b7, b8, b9]; done) | simp [h126, h129, h131])), rfl⟩
   ·
    have h141 := of_decide_eq_false h129
    iterate 3 refine wpo_pass rfl rfl rfl h129 rfl ?_
    refine wpo_pickf (v := .bool false) rfl h129 rfl rfl ?_
    refine wpo_move (v := .bool false) rfl rfl ?_
    iterate 3 refine wpo_pass rfl rfl rfl rfl rfl ?_
    refine wpo_pickf (v := .bool false) rfl rfl rfl rfl ?_
    refine wpo_move (v := .bool false) rfl rfl ?_
    iterate 3 refine wpo_pass rfl rfl rfl rfl rfl ?_
    refine wpo_pickf (v := .bool false) rfl rfl rfl rfl ?_
    refine wpo_move (v := .bool false) rfl rfl ?_
    iterate 3 refine wpo_pass rfl rfl rfl rfl rfl ?_
    refine wpo_passu rfl rfl rfl rfl ?_
    refine wpo_passu rfl rfl rfl rfl ?_
    refine wpo_pass rfl rfl rfl rfl rfl ?_
    refine wpo_pass rfl rfl rfl rfl rfl ?_
    refine wpo_pickf (v := .bool false) rfl rfl rfl rfl ?_
    refine wpo_assign (v := .bool false) rfl rfl ?_
    exact wpo_nil ⟨(congrArg Value.bool (by first | (simp only [h126, h129, b0, b1, b2, b3, b4, b5, b6, b7, b8, b9]; done) | simp [h126, h129])), rfl⟩
  ·
   rintro f142 w143 ⟨e144, rfl⟩
   refine wpf_ret ?_
   refine ⟨.bool (((((decide (1 ≤ r.th)) && (decide (r.th ≤ 8))) && (decide (0 ≤ r.ve))) && (decide (r.ve ≤ 5))) && (!(r.wk && r.wr))), res1 rfl e144, ?_, hb125⟩
   simp [rightOk, inR, Bool.and_assoc, h126]

end Go.Proofs.Ytlkmdoebmklbbaa
