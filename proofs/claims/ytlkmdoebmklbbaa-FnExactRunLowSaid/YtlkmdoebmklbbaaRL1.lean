/- Walks, printed by a program of mine (gen.py) out of the functions. -/
import Derived.Test.YtlkmdoebmklbbaaProg
import Derived.Test.YtlkmdoebmklbbaaR
import Derived.Test.YtlkmdoebmklbbaaN
import Derived.Test.YtlkmdoebmklbbaaP
import Derived.Test.YtlkmdoebmklbbaaF
import Derived.Test.YtlkmdoebmklbbaaY
import Derived.Test.YtlkmdoebmklbbaaE
import Derived.Test.YtlkmdoebmklbbaaZ
import Derived.Test.YtlkmdoebmklbbaaKE
import Derived.Test.YtlkmdoebmklbbaaL
namespace Go.Proofs.Ytlkmdoebmklbbaa
open Go.RowKit Go.Dw
set_option maxRecDepth 100000
set_option maxHeartbeats 4000000
set_option linter.unusedSimpArgs false
set_option linter.unusedVariables false
theorem fo_29_0 : fieldOff Try.prog 29 0 = some 0 := by kernel_rfl
theorem fo_29_1 : fieldOff Try.prog 29 1 = some 1 := by kernel_rfl
theorem fo_29_3 : fieldOff Try.prog 29 3 = some 3 := by kernel_rfl
theorem fo_29_4 : fieldOff Try.prog 29 4 = some 4 := by kernel_rfl
theorem fo_40_0 : fieldOff Try.prog 40 0 = some 0 := by kernel_rfl
theorem fo_40_1 : fieldOff Try.prog 40 1 = some 1 := by kernel_rfl
theorem gf_70 : goFn Try.prog 70 = true := by kernel_rfl
theorem gf_87 : goFn Try.prog 87 = true := by kernel_rfl
theorem gf_88 : goFn Try.prog 88 = true := by kernel_rfl
theorem ot_3 : oneTy Try.prog 3 = true := by kernel_rfl
theorem ot_4 : oneTy Try.prog 4 = true := by kernel_rfl
theorem rt_29 : rowTy Try.prog 29 = some 5 := by kernel_rfl
theorem rt_40 : rowTy Try.prog 40 = some 2 := by kernel_rfl
theorem mixed_ : Try.prog.follows .mixedOrders = true := by kernel_rfl
theorem eqG_29 (x y : Operand) (a b : Rt) (w : World) : (eqGuard .eql 29 x y (.agg a.cells.toArray) (.agg b.cells.toArray)).run Try.prog w = .ok () w := by kernel_rfl
theorem eqV_29 (a b : Rt) (w : World) : (binOp .eql 29 (.agg a.cells.toArray) (.agg b.cells.toArray)).run Try.prog w = .ok (.bool (decide (a = b))) w := by
  have h := run_equalIn_struct (P := Try.prog) w 9999 29 a.cells.toArray b.cells.toArray (by kernel_rfl) (by kernel_rfl)
  obtain ⟨a0, a1, a2, a3, a4⟩ := a
  obtain ⟨b0, b1, b2, b3, b4⟩ := b
  simp only [binOp, Op.equal, Op.maxDepth, Sem.run_bind, Rt.cells] at h ⊢
  rw [h]
  simp [go_sem]
  (repeat' split) <;> simp_all
theorem LabelOk_c (l : Lab) (w : World) : CallsR Try.prog 70 #[.agg #[.int .i64 l.s, .int .i64 l.v]] w (fun v w' => v = .bool (labelOk l) ∧ w.grownBy w' none) := by
 refine calls_of_wpf (n := 21) Try.func70 rfl Try.ntmps70 rfl ?_
 have hb0 := World.grownBy.refl w none
 refine wpf_seq_region ?_
 refine wpo_box (v := .agg #[.int .i64 l.s, .int .i64 l.v]) (cs := #[.int .i64 l.s, .int .i64 l.v]) rfl rfl rfl ?_
 intro B101 w102 hN103
 have hlB101 := hN_ge hN103 hb0
 have hb104 := low0 hb0 hN103.grw
 refine wpo_assign (v := .bool false) rfl rfl ?_
 refine wpo_nil ?_
 refine wpf_seq_region_mid (fun f' w' => (f' 2 = .bool ((((decide (0 ≤ l.s)) && (decide (l.s ≤ 3))) && (decide (0 ≤ l.v))) && (decide (l.v ≤ 3)))) ∧ w102 = w') ?_ ?_
 ·
  refine wpo_fieldAddr (o' := 0) fo_40_0 rfl rfl rfl ?_
  refine wpo_load1 (v := .int .i64 l.s) ot_3 rfl (hN103.blk.cell rfl) rfl ?_
  refine wpo_geq (q := decide (0 ≤ l.s)) rfl rfl rfl rfl ?_
  refine wpo_move (v := .bool (decide (0 ≤ l.s))) rfl rfl ?_
  rcases bcases (decide (0 ≤ l.s)) with h105 | h105
  ·
   have h106 := of_decide_eq_true h105
   refine wpo_run rfl rfl rfl h105 ?_
   refine wpo_fieldAddr (o' := 0) fo_40_0 rfl rfl rfl ?_
   refine wpo_run rfl rfl rfl h105 ?_
   refine wpo_load1 (v := .int .i64 l.s) ot_3 rfl (hN103.blk.cell rfl) rfl ?_
   refine wpo_run rfl rfl rfl h105 ?_
   refine wpo_leq (q := decide (l.s ≤ 3)) rfl rfl rfl rfl ?_
   refine wpo_pickt (v := .bool (decide (l.s ≤ 3))) rfl h105 rfl rfl ?_
   refine wpo_move (v := .bool (decide (l.s ≤ 3))) rfl rfl ?_
   rcases bcases (decide (l.s ≤ 3)) with h107 | h107
   ·
    have h108 := of_decide_eq_true h107
    refine wpo_run rfl rfl rfl h107 ?_
    refine wpo_fieldAddr (o' := 1) fo_40_1 rfl rfl rfl ?_
    refine wpo_run rfl rfl rfl h107 ?_
    refine wpo_load1 (v := .int .i64 l.v) ot_3 rfl (hN103.blk.cell rfl) rfl ?_
    refine wpo_run rfl rfl rfl h107 ?_
    refine wpo_geq (q := decide (0 ≤ l.v)) rfl rfl rfl rfl ?_
    refine wpo_pickt (v := .bool (decide (0 ≤ l.v))) rfl h107 rfl rfl ?_
    refine wpo_move (v := .bool (decide (0 ≤ l.v))) rfl rfl ?_
    rcases bcases (decide (0 ≤ l.v)) with h109 | h109
    ·
     have h110 := of_decide_eq_true h109
     refine wpo_run rfl rfl rfl h109 ?_
     refine wpo_fieldAddr (o' := 1) fo_40_1 rfl rfl rfl ?_
     refine wpo_run rfl rfl rfl h109 ?_
     refine wpo_load1 (v := .int .i64 l.v) ot_3 rfl (hN103.blk.cell rfl) rfl ?_
     refine wpo_run rfl rfl rfl h109 ?_
     refine wpo_leq (q := decide (l.v ≤ 3)) rfl rfl rfl rfl ?_
     refine wpo_pickt (v := .bool (decide (l.v ≤ 3))) rfl h109 rfl rfl ?_
     refine wpo_assign (v := .bool (decide (l.v ≤ 3))) rfl rfl ?_
     exact wpo_nil ⟨(congrArg Value.bool (by first | (simp only [h105, h107, h109, b0, b1, b2, b3, b4, b5, b6, b7, b8, b9]; done) | simp [h105, h107, h109])), rfl⟩
    ·
     have h111 := of_decide_eq_false h109
     iterate 3 refine wpo_pass rfl rfl rfl h109 rfl ?_
     refine wpo_pickf (v := .bool false) rfl h109 rfl rfl ?_
     refine wpo_assign (v := .bool false) rfl rfl ?_
     exact wpo_nil ⟨(congrArg Value.bool (by first | (simp only [h105, h107, h109, b0, b1, b2, b3, b4, b5, b6, b7, b8, b9]; done) | simp [h105, h107, h109])), rfl⟩
   ·
    have h112 := of_decide_eq_false h107
    iterate 3 refine wpo_pass rfl rfl rfl h107 rfl ?_
    refine wpo_pickf (v := .bool false) rfl h107 rfl rfl ?_
    refine wpo_move (v := .bool false) rfl rfl ?_
    iterate 3 refine wpo_pass rfl rfl rfl rfl rfl ?_
    refine wpo_pickf (v := .bool false) rfl rfl rfl rfl ?_
    refine wpo_assign (v := .bool false) rfl rfl ?_
    exact wpo_nil ⟨(congrArg Value.bool (by first | (simp only [h105, h107, b0, b1, b2, b3, b4, b5, b6, b7, b8, b9]; done) | simp [h105, h107])), rfl⟩
  ·
   have h113 := of_decide_eq_false h105
   iterate 3 refine wpo_pass rfl rfl rfl h105 rfl ?_
   refine wpo_pickf (v := .bool false) rfl h105 rfl rfl ?_
   refine wpo_move (v := .bool false) rfl rfl ?_
   iterate 3 refine wpo_pass rfl rfl rfl rfl rfl ?_
   refine wpo_pickf (v := .bool false) rfl rfl rfl rfl ?_
   refine wpo_move (v := .bool false) rfl rfl ?_
   iterate 3 refine wpo_pass rfl rfl rfl rfl rfl ?_
   refine wpo_pickf (v := .bool false) rfl rfl rfl rfl ?_
   refine wpo_assign (v := .bool false) rfl rfl ?_
   exact wpo_nil ⟨(congrArg Value.bool (by first | (simp only [h105, b0, b1, b2, b3, b4, b5, b6, b7, b8, b9]; done) | simp [h105])), rfl⟩
 ·
  rintro f114 w115 ⟨e116, rfl⟩
  refine wpf_ret ?_
  refine ⟨.bool ((((decide (0 ≤ l.s)) && (decide (l.s ≤ 3))) && (decide (0 ≤ l.v))) && (decide (l.v ≤ 3))), res1 rfl e116, ?_, hb104⟩
  simp [labelOk, inR, Bool.and_assoc]
theorem labelSets_c (l : Lab) (hl : labelOk l = true) (w : World) : CallsR Try.prog 87 #[.agg #[.int .i64 l.s, .int .i64 l.v]] w (fun v w' => v = .tuple #[.int .u64 l.s, .int .u64 l.v] ∧ w.grownBy w' none) := by
 refine calls_of_wpf (n := 10) Try.func87 rfl Try.ntmps87 rfl ?_
 have hb0 := World.grownBy.refl w none
 obtain ⟨⟨hl1, hl2⟩, hl3, hl4⟩ := (labelOk_iff l).1 hl
 refine wpf_seq_region ?_
 refine wpo_box (v := .agg #[.int .i64 l.s, .int .i64 l.v]) (cs := #[.int .i64 l.s, .int .i64 l.v]) rfl rfl rfl ?_
 intro B101 w102 hN103
 have hlB101 := hN_ge hN103 hb0
 have hb104 := low0 hb0 hN103.grw
 refine wpo_assign (v := .int .u64 0) rfl rfl ?_
 refine wpo_assign (v := .int .u64 0) rfl rfl ?_
 refine wpo_nil ?_
 refine wpf_seq ?_
 refine wpf_draw (m := 7) (vals := [(4, .pointer (some ⟨B101, 0, none⟩)), (5, .int .i64 l.s), (6, .int .u64 l.s), (7, .pointer (some ⟨B101, 1, none⟩)), (8, .int .i64 l.v), (9, .int .u64 l.v), (2, .int .u64 l.s)]) (fun w' => w102.grownBy w' none) mixed_ (by kernel_rfl) (grown_drew _) ?_ ?_
 ·
  refine yll_cons rfl (fun w105 hi106 => ?_) ?_
  ·
   have hb107 := low0 hb104 hi106
   refine wpo_fieldAddr (o' := 0) fo_40_0 rfl rfl rfl ?_
   exact wpo_nil ⟨rfl, hi106⟩
  refine yll_cons rfl (fun w108 hi109 => ?_) ?_
  ·
   have hb110 := low0 hb104 hi109
   have k111 := (hN103.blk.grown0 hi109)
   refine wpo_load1 (v := .int .i64 l.s) ot_3 rfl (k111.cell rfl) rfl ?_
   exact wpo_nil ⟨rfl, hi109⟩
  refine yll_cons rfl (fun w112 hi113 => ?_) ?_
  ·
   have hb114 := low0 hb104 hi113
   refine wpo_conv (P := Try.prog) (k' := .u64) rfl (by kernel_rfl) (by kernel_rfl) (conv_u64 (by omega) (by omega)) rfl ?_
   exact wpo_nil ⟨rfl, hi113⟩
  refine yll_cons rfl (fun w115 hi116 => ?_) ?_
  ·
   have hb117 := low0 hb104 hi116
   refine wpo_fieldAddr (o' := 1) fo_40_1 rfl rfl rfl ?_
   exact wpo_nil ⟨rfl, hi116⟩
  refine yll_cons rfl (fun w118 hi119 => ?_) ?_
  ·
   have hb120 := low0 hb104 hi119
   have k121 := (hN103.blk.grown0 hi119)
   refine wpo_load1 (v := .int .i64 l.v) ot_3 rfl (k121.cell rfl) rfl ?_
   exact wpo_nil ⟨rfl, hi119⟩
  refine yll_cons rfl (fun w122 hi123 => ?_) ?_
  ·
   have hb124 := low0 hb104 hi123
   refine wpo_conv (P := Try.prog) (k' := .u64) rfl (by kernel_rfl) (by kernel_rfl) (conv_u64 (by omega) (by omega)) rfl ?_
   exact wpo_nil ⟨rfl, hi123⟩
  refine yll_cons rfl (fun w125 hi126 => ?_) ?_
  ·
   have hb127 := low0 hb104 hi126
   refine wpo_assign (v := .int .u64 l.s) rfl rfl ?_
   exact wpo_nil ⟨rfl, hi126⟩
  exact yll_nil
 ·
  intro w128 hi129
  have hb130 := low0 hb104 hi129
  refine wpo_assign (v := .int .u64 l.v) rfl rfl ?_
  refine wpo_nil ?_
  refine thn_n ?_
  refine wpf_ret ?_
  refine ⟨.tuple #[.int .u64 l.s, .int .u64 l.v], res2 rfl rfl rfl, ?_, hb130⟩
  rfl
theorem within_c (a b : Int) (w : World) : CallsR Try.prog 88 #[.int .u64 a, .int .u64 b] w (fun v w' => v = .bool (decide (bits .andNot .u64 a b = 0)) ∧ w.grownBy w' none) := by
 refine calls_of_wpf (n := 9) Try.func88 rfl Try.ntmps88 rfl ?_
 have hb0 := World.grownBy.refl w none
 refine wpf_seq_region ?_
 refine wpo_assign (v := .bool false) rfl rfl ?_
 refine wpo_nil ?_
 refine wpf_seq_region ?_
 refine wpo_move (v := .int .u64 a) rfl rfl ?_
 refine wpo_move (v := .int .u64 b) rfl rfl ?_
 refine wpo_bin (u := .int .u64 a) (u' := .int .u64 b) (v := .int .u64 (bits .andNot .u64 a b)) rfl rfl (by rw [binOp_andNot, intBits_andNot]; rfl) (fun _ _ => eqGuard_at_int ..) rfl ?_
 refine wpo_eql (q := decide (bits .andNot .u64 a b = 0)) rfl rfl rfl rfl ?_
 refine wpo_assign (v := .bool (decide (bits .andNot .u64 a b = 0))) rfl rfl ?_
 refine wpo_nil ?_
 refine wpf_ret ?_
 refine ⟨.bool (decide (bits .andNot .u64 a b = 0)), res1 rfl rfl, ?_, hb0⟩
 rfl
theorem LabelFlow_c (a b : Lab) (w : World) : CallsR Try.prog 36 #[.agg #[.int .i64 a.s, .int .i64 a.v], .agg #[.int .i64 b.s, .int .i64 b.v]] w (fun v w' => v = .bool (labelFlow a b) ∧ w.grownBy w' none) := by
 refine calls_of_wpf (n := 35) Try.func36 rfl Try.ntmps36 rfl ?_
 have hb0 := World.grownBy.refl w none
 refine wpf_seq_region ?_
 refine wpo_box (v := .agg #[.int .i64 a.s, .int .i64 a.v]) (cs := #[.int .i64 a.s, .int .i64 a.v]) rfl rfl rfl ?_
 intro B101 w102 hN103
 have hlB101 := hN_ge hN103 hb0
 have hb104 := low0 hb0 hN103.grw
 refine wpo_box (v := .agg #[.int .i64 b.s, .int .i64 b.v]) (cs := #[.int .i64 b.s, .int .i64 b.v]) rfl rfl rfl ?_
 intro B105 w106 hN107
 have hlB105 := hN_ge hN107 hb104
 have lt_B101_B105 := hN_gtl hN107 (hN103.blk).lt
 have hb108 := low0 hb104 hN107.grw
 refine wpo_assign (v := .bool false) rfl rfl ?_
 refine wpo_nil ?_
 refine wpf_seq ?_
 refine wpf_seq_region_mid (fun f' w' => (f' 2 = .pointer (some ⟨B101, 0, none⟩) ∧ f' 3 = .pointer (some ⟨B105, 0, none⟩) ∧ f' 4 = .bool false ∧ f' 16 = .bool ((!labelOk a) || (!labelOk b))) ∧ w106.grownBy w' none) ?_ ?_
 ·
  have k121 := (hN103.blk.grown0 hN107.grw)
  refine wpo_loadn (vs := [.int .i64 a.s, .int .i64 a.v]) rt_40 rfl rfl (k121.rangeL 0 2 rfl) rfl ?_
  refine wpo_call (vs := [.agg #[.int .i64 a.s, .int .i64 a.v]]) gf_70 (args_cons rfl args_nil) rfl (LabelOk_c a _) ?_
  rintro _ w122 ⟨rfl, hg123⟩
  have hb124 := low0 hb108 hg123
  refine wpo_not (b' := !labelOk a) rfl rfl rfl ?_
  refine wpo_move (v := .bool (!labelOk a)) rfl rfl ?_
  rcases bcases (!labelOk a) with h125 | h125
  ·
   have h126 := nt_t h125
   iterate 3 refine wpo_pass rfl rfl rfl h125 rfl ?_
   refine wpo_pickt (v := .bool true) rfl h125 rfl rfl ?_
   exact wpo_nil ⟨⟨rfl, rfl, rfl, (congrArg Value.bool (by first | (simp only [h125, h126, b0, b1, b2, b3, b4, b5, b6, b7, b8, b9]; done) | simp [h125, h126]))⟩, hg123⟩
  ·
   have h127 := nt_f h125
   refine wpo_run rfl rfl rfl h125 ?_
   have k128 := (hN107.blk.grown0 hg123)
   refine wpo_loadn (vs := [.int .i64 b.s, .int .i64 b.v]) rt_40 rfl rfl (k128.rangeL 0 2 rfl) rfl ?_
   refine wpo_run rfl rfl rfl h125 ?_
   refine wpo_call (vs := [.agg #[.int .i64 b.s, .int .i64 b.v]]) gf_70 (args_cons rfl args_nil) rfl (LabelOk_c b _) ?_
   rintro _ w129 ⟨rfl, hg130⟩
   have hb131 := low0 hb124 hg130
   refine wpo_run rfl rfl rfl h125 ?_
   refine wpo_not (b' := !labelOk b) rfl rfl rfl ?_
   refine wpo_pickf (v := .bool (!labelOk b)) rfl h125 rfl rfl ?_
   exact wpo_nil ⟨⟨rfl, rfl, rfl, (congrArg Value.bool (by first | (simp only [h125, h127, b0, b1, b2, b3, b4, b5, b6, b7, b8, b9]; done) | simp [h125, h127]))⟩, (grown_trans hg123 hg130)⟩
 ·
  rintro f132 w133 ⟨⟨e134, e135, e136, e137⟩, hg138⟩
  have hb139 := low0 hb108 hg138
  refine wpf_cond e137 (fun h140 => ?_) (fun h140 => ?_)
  ·
   refine wpf_seq_region ?_
   refine wpo_assign (v := .bool false) rfl rfl ?_
   refine wpo_nil ?_
   refine wpf_ret ?_
   refine thn_r ?_
   refine ⟨.bool false, res1 rfl rfl, ?_, hb139⟩
   exact congrArg Value.bool (labelFlow_no h140).symm
  ·
   have h141 := or_l h140
   have h142 := nt_f h141
   have h143 := or_r h140
   have h144 := nt_f h143
   refine wpf_skip ?_
   refine thn_n ?_
   refine wpf_seq_region ?_
   have k145 := ((hN103.blk.grown0 hN107.grw).grown0 hg138)
   refine wpo_loadn (vs := [.int .i64 a.s, .int .i64 a.v]) rt_40 e134 rfl (k145.rangeL 0 2 rfl) rfl ?_
   refine wpo_call (vs := [.agg #[.int .i64 a.s, .int .i64 a.v]]) gf_87 (args_cons rfl args_nil) rfl (labelSets_c a h142 _) ?_
   rintro _ w146 ⟨rfl, hg147⟩
   have hb148 := low0 hb139 hg147
   refine wpo_move (v := .tuple #[.int .u64 a.s, .int .u64 a.v]) rfl rfl ?_
   refine wpo_extract (v := .int .u64 a.s) rfl rfl rfl ?_
   refine wpo_extract (v := .int .u64 a.v) rfl rfl rfl ?_
   refine wpo_assign (v := .int .u64 a.s) rfl rfl ?_
   refine wpo_assign (v := .int .u64 a.v) rfl rfl ?_
   refine wpo_nil ?_
   refine wpf_seq_region ?_
   have k149 := ((hN107.blk.grown0 hg138).grown0 hg147)
   refine wpo_loadn (vs := [.int .i64 b.s, .int .i64 b.v]) rt_40 e135 rfl (k149.rangeL 0 2 rfl) rfl ?_
   refine wpo_call (vs := [.agg #[.int .i64 b.s, .int .i64 b.v]]) gf_87 (args_cons rfl args_nil) rfl (labelSets_c b h144 _) ?_
   rintro _ w150 ⟨rfl, hg151⟩
   have hb152 := low0 hb148 hg151
   refine wpo_move (v := .tuple #[.int .u64 b.s, .int .u64 b.v]) rfl rfl ?_
   refine wpo_extract (v := .int .u64 b.s) rfl rfl rfl ?_
   refine wpo_extract (v := .int .u64 b.v) rfl rfl rfl ?_
   refine wpo_assign (v := .int .u64 b.s) rfl rfl ?_
   refine wpo_assign (v := .int .u64 b.v) rfl rfl ?_
   refine wpo_nil ?_
   refine wpf_seq_region_mid (fun f' w' => (f' 4 = .bool ((decide (bits .andNot .u64 a.s b.s = 0)) && (decide (bits .andNot .u64 b.v a.v = 0)))) ∧ w150.grownBy w' none) ?_ ?_
   ·
    refine wpo_move (v := .int .u64 a.s) rfl rfl ?_
    refine wpo_move (v := .int .u64 b.s) rfl rfl ?_
    refine wpo_call (vs := [.int .u64 a.s, .int .u64 b.s]) gf_88 (args_cons rfl (args_cons rfl args_nil)) rfl (within_c a.s b.s _) ?_
    rintro _ w162 ⟨rfl, hg163⟩
    have hb164 := low0 hb152 hg163
    refine wpo_move (v := .bool (decide (bits .andNot .u64 a.s b.s = 0))) rfl rfl ?_
    rcases bcases (decide (bits .andNot .u64 a.s b.s = 0)) with h165 | h165
    ·
     have h166 := of_decide_eq_true h165
     refine wpo_run rfl rfl rfl h165 ?_
     refine wpo_move (v := .int .u64 b.v) rfl rfl ?_
     refine wpo_run rfl rfl rfl h165 ?_
     refine wpo_move (v := .int .u64 a.v) rfl rfl ?_
     refine wpo_run rfl rfl rfl h165 ?_
     refine wpo_call (vs := [.int .u64 b.v, .int .u64 a.v]) gf_88 (args_cons rfl (args_cons rfl args_nil)) rfl (within_c b.v a.v _) ?_
     rintro _ w167 ⟨rfl, hg168⟩
     have hb169 := low0 hb164 hg168
     refine wpo_pickt (v := .bool (decide (bits .andNot .u64 b.v a.v = 0))) rfl h165 rfl rfl ?_
     refine wpo_assign (v := .bool (decide (bits .andNot .u64 b.v a.v = 0))) rfl rfl ?_
     exact wpo_nil ⟨(congrArg Value.bool (by first | (simp only [h140, h141, h142, h143, h144, h165, b0, b1, b2, b3, b4, b5, b6, b7, b8, b9]; done) | simp [h140, h141, h142, h143, h144, h165])), (grown_trans hg163 hg168)⟩
    ·
     have h170 := of_decide_eq_false h165
     iterate 3 refine wpo_pass rfl rfl rfl h165 rfl ?_
     refine wpo_pickf (v := .bool false) rfl h165 rfl rfl ?_
     refine wpo_assign (v := .bool false) rfl rfl ?_
     exact wpo_nil ⟨(congrArg Value.bool (by first | (simp only [h140, h141, h142, h143, h144, h165, b0, b1, b2, b3, b4, b5, b6, b7, b8, b9]; done) | simp [h140, h141, h142, h143, h144, h165])), hg163⟩
   ·
    rintro f171 w172 ⟨e173, hg174⟩
    have hb175 := low0 hb152 hg174
    refine wpf_ret ?_
    refine ⟨.bool ((decide (bits .andNot .u64 a.s b.s = 0)) && (decide (bits .andNot .u64 b.v a.v = 0))), res1 rfl e173, ?_, hb175⟩
    exact congrArg Value.bool (labelFlow_yes h142 h144)
theorem RightOk_c (r : Rt) (w : World) : CallsR Try.prog 20 #[.agg #[.int .i64 r.th, .int .i64 r.ve, .bool r.rd, .bool r.wr, .bool r.wk]] w (fun v w' => v = .bool (rightOk r) ∧ w.grownBy w' none) := by
 refine calls_of_wpf (n := 33) Try.func20 rfl Try.ntmps20 rfl ?_
 have hb0 := World.grownBy.refl w none
 refine wpf_seq_region ?_
 refine wpo_box (v := .agg #[.int .i64 r.th, .int .i64 r.ve, .bool r.rd, .bool r.wr, .bool r.wk]) (cs := #[.int .i64 r.th, .int .i64 r.ve, .bool r.rd, .bool r.wr, .bool r.wk]) rfl rfl rfl ?_
 intro B101 w102 hN103
 have hlB101 := hN_ge hN103 hb0
 have hb104 := low0 hb0 hN103.grw
 refine wpo_assign (v := .bool false) rfl rfl ?_
 refine wpo_nil ?_
 refine wpf_seq ?_
 refine wpf_seq_region ?_
 refine wpo_loadn (vs := [.int .i64 r.th, .int .i64 r.ve, .bool r.rd, .bool r.wr, .bool r.wk]) rt_29 rfl rfl (hN103.blk.rangeL 0 5 rfl) rfl ?_
 refine wpo_build (ps := []) (v := .agg #[.int .i64 0, .int .i64 0, .bool false, .bool false, .bool false]) parts_nil (by kernel_rfl) rfl ?_
 refine wpo_eqs (q := decide (r = Rt.zero)) rfl rfl (eqG_29 _ _ r Rt.zero _) (eqV_29 r Rt.zero _) rfl rfl ?_
 refine wpo_nil ?_
 refine wpf_cond rfl (fun h105 => ?_) (fun h105 => ?_)
 ·
  have h106 := of_decide_eq_true h105
  refine wpf_seq_region ?_
  refine wpo_assign (v := .bool true) rfl rfl ?_
  refine wpo_nil ?_
  refine wpf_ret ?_
  refine thn_r ?_
  refine ⟨.bool true, res1 rfl rfl, ?_, hb104⟩
  simp [rightOk, inR, Bool.and_assoc, h105]
 ·
  have h107 := of_decide_eq_false h105
  refine wpf_skip ?_
  refine thn_n ?_
  refine wpf_seq_region_mid (fun f' w' => (f' 2 = .bool (((((decide (1 ≤ r.th)) && (decide (r.th ≤ 8))) && (decide (0 ≤ r.ve))) && (decide (r.ve ≤ 5))) && (!(r.wk && r.wr)))) ∧ w102 = w') ?_ ?_
  ·
   refine wpo_fieldAddr (o' := 0) fo_29_0 rfl rfl rfl ?_
   refine wpo_load1 (v := .int .i64 r.th) ot_3 rfl (hN103.blk.cell rfl) rfl ?_
   refine wpo_geq (q := decide (1 ≤ r.th)) rfl rfl rfl rfl ?_
   refine wpo_move (v := .bool (decide (1 ≤ r.th))) rfl rfl ?_
   rcases bcases (decide (1 ≤ r.th)) with h108 | h108
   ·
    have h109 := of_decide_eq_true h108
    refine wpo_run rfl rfl rfl h108 ?_
    refine wpo_fieldAddr (o' := 0) fo_29_0 rfl rfl rfl ?_
    refine wpo_run rfl rfl rfl h108 ?_
    refine wpo_load1 (v := .int .i64 r.th) ot_3 rfl (hN103.blk.cell rfl) rfl ?_
    refine wpo_run rfl rfl rfl h108 ?_
    refine wpo_leq (q := decide (r.th ≤ 8)) rfl rfl rfl rfl ?_
    refine wpo_pickt (v := .bool (decide (r.th ≤ 8))) rfl h108 rfl rfl ?_
    refine wpo_move (v := .bool (decide (r.th ≤ 8))) rfl rfl ?_
    rcases bcases (decide (r.th ≤ 8)) with h110 | h110
    ·
     have h111 := of_decide_eq_true h110
     refine wpo_run rfl rfl rfl h110 ?_
     refine wpo_fieldAddr (o' := 1) fo_29_1 rfl rfl rfl ?_
     refine wpo_run rfl rfl rfl h110 ?_
     refine wpo_load1 (v := .int .i64 r.ve) ot_3 rfl (hN103.blk.cell rfl) rfl ?_
     refine wpo_run rfl rfl rfl h110 ?_
     refine wpo_geq (q := decide (0 ≤ r.ve)) rfl rfl rfl rfl ?_
     refine wpo_pickt (v := .bool (decide (0 ≤ r.ve))) rfl h110 rfl rfl ?_
     refine wpo_move (v := .bool (decide (0 ≤ r.ve))) rfl rfl ?_
     rcases bcases (decide (0 ≤ r.ve)) with h112 | h112
     ·
      have h113 := of_decide_eq_true h112
      refine wpo_run rfl rfl rfl h112 ?_
      refine wpo_fieldAddr (o' := 1) fo_29_1 rfl rfl rfl ?_
      refine wpo_run rfl rfl rfl h112 ?_
      refine wpo_load1 (v := .int .i64 r.ve) ot_3 rfl (hN103.blk.cell rfl) rfl ?_
      refine wpo_run rfl rfl rfl h112 ?_
      refine wpo_leq (q := decide (r.ve ≤ 5)) rfl rfl rfl rfl ?_
      refine wpo_pickt (v := .bool (decide (r.ve ≤ 5))) rfl h112 rfl rfl ?_
      refine wpo_move (v := .bool (decide (r.ve ≤ 5))) rfl rfl ?_
      rcases bcases (decide (r.ve ≤ 5)) with h114 | h114
      ·
       have h115 := of_decide_eq_true h114
       refine wpo_run rfl rfl rfl h114 ?_
       refine wpo_fieldAddr (o' := 4) fo_29_4 rfl rfl rfl ?_
       refine wpo_run rfl rfl rfl h114 ?_
       refine wpo_load1 (v := .bool r.wk) ot_4 rfl (hN103.blk.cell rfl) rfl ?_
       refine wpo_run rfl rfl rfl h114 ?_
       refine wpo_move (v := .bool r.wk) rfl rfl ?_
       rcases bcases (r.wk) with h116 | h116
       ·
        refine wpo_run rfl rfl rfl h116 ?_
        refine wpo_fieldAddr (o' := 3) fo_29_3 rfl rfl rfl ?_
        refine wpo_run rfl rfl rfl h116 ?_
        refine wpo_load1 (v := .bool r.wr) ot_4 rfl (hN103.blk.cell rfl) rfl ?_
        refine wpo_run rfl rfl rfl h114 ?_
        refine wpo_pickt (v := .bool r.wr) rfl h116 rfl rfl ?_
        refine wpo_run rfl rfl rfl h114 ?_
        refine wpo_not (b' := !r.wr) rfl rfl rfl ?_
        refine wpo_pickt (v := .bool (!r.wr)) rfl h114 rfl rfl ?_
        refine wpo_assign (v := .bool (!r.wr)) rfl rfl ?_
        exact wpo_nil ⟨(congrArg Value.bool (by first | (simp only [h105, h108, h110, h112, h114, h116, b0, b1, b2, b3, b4, b5, b6, b7, b8, b9]; done) | simp [h105, h108, h110, h112, h114, h116])), rfl⟩
       ·
        refine wpo_pass rfl rfl rfl h116 rfl ?_
        refine wpo_pass rfl rfl rfl h116 rfl ?_
        refine wpo_run rfl rfl rfl h114 ?_
        refine wpo_pickf (v := .bool false) rfl h116 rfl rfl ?_
        refine wpo_run rfl rfl rfl h114 ?_
        refine wpo_not (b' := true) rfl rfl rfl ?_
        refine wpo_pickt (v := .bool true) rfl h114 rfl rfl ?_
        refine wpo_assign (v := .bool true) rfl rfl ?_
        exact wpo_nil ⟨(congrArg Value.bool (by first | (simp only [h105, h108, h110, h112, h114, h116, b0, b1, b2, b3, b4, b5, b6, b7, b8, b9]; done) | simp [h105, h108, h110, h112, h114, h116])), rfl⟩
      ·
       have h117 := of_decide_eq_false h114
       iterate 3 refine wpo_pass rfl rfl rfl h114 rfl ?_
       refine wpo_passu rfl rfl rfl rfl ?_
       refine wpo_passu rfl rfl rfl rfl ?_
       refine wpo_pass rfl rfl rfl h114 rfl ?_
       refine wpo_pass rfl rfl rfl h114 rfl ?_
       refine wpo_pickf (v := .bool false) rfl h114 rfl rfl ?_
       refine wpo_assign (v := .bool false) rfl rfl ?_
       exact wpo_nil ⟨(congrArg Value.bool (by first | (simp only [h105, h108, h110, h112, h114, b0, b1, b2, b3, b4, b5, b6, b7, b8, b9]; done) | simp [h105, h108, h110, h112, h114])), rfl⟩
     ·
      have h118 := of_decide_eq_false h112
      iterate 3 refine wpo_pass rfl rfl rfl h112 rfl ?_
      refine wpo_pickf (v := .bool false) rfl h112 rfl rfl ?_
      refine wpo_move (v := .bool false) rfl rfl ?_
      iterate 3 refine wpo_pass rfl rfl rfl rfl rfl ?_
      refine wpo_passu rfl rfl rfl rfl ?_
      refine wpo_passu rfl rfl rfl rfl ?_
      refine wpo_pass rfl rfl rfl rfl rfl ?_
      refine wpo_pass rfl rfl rfl rfl rfl ?_
      refine wpo_pickf (v := .bool false) rfl rfl rfl rfl ?_
      refine wpo_assign (v := .bool false) rfl rfl ?_
      exact wpo_nil ⟨(congrArg Value.bool (by first | (simp only [h105, h108, h110, h112, b0, b1, b2, b3, b4, b5, b6, b7, b8, b9]; done) | simp [h105, h108, h110, h112])), rfl⟩
    ·
     have h119 := of_decide_eq_false h110
     iterate 3 refine wpo_pass rfl rfl rfl h110 rfl ?_
     refine wpo_pickf (v := .bool false) rfl h110 rfl rfl ?_
     refine wpo_move (v := .bool false) rfl rfl ?_
     iterate 3 refine wpo_pass rfl rfl rfl rfl rfl ?_
     refine wpo_pickf (v := .bool false) rfl rfl rfl rfl ?_
     refine wpo_move (v := .bool false) rfl rfl ?_
     iterate 3 refine wpo_pass rfl rfl rfl rfl rfl ?_
     refine wpo_passu rfl rfl rfl rfl ?_
     refine wpo_passu rfl rfl rfl rfl ?_
     refine wpo_pass rfl rfl rfl rfl rfl ?_
     refine wpo_pass rfl rfl rfl rfl rfl ?_
     refine wpo_pickf (v := .bool false) rfl rfl rfl rfl ?_
     refine wpo_assign (v := .bool false) rfl rfl ?_
     exact wpo_nil ⟨(congrArg Value.bool (by first | (simp only [h105, h108, h110, b0, b1, b2, b3, b4, b5, b6, b7, b8, b9]; done) | simp [h105, h108, h110])), rfl⟩
   ·
    have h120 := of_decide_eq_false h108
    iterate 3 refine wpo_pass rfl rfl rfl h108 rfl ?_
    refine wpo_pickf (v := .bool false) rfl h108 rfl rfl ?_
    refine wpo_move (v := .bool false) rfl rfl ?_
    iterate 3 refine wpo_pass rfl rfl rfl rfl rfl ?_
    refine wpo_pickf (v := .bool false) rfl rfl rfl rfl ?_
    refine wpo_move (v := .bool false) rfl rfl ?_
    iterate 3 refine wpo_pass rfl rfl rfl rfl rfl ?_
    refine wpo_pickf (v := .bool false) rfl rfl rfl rfl ?_
    refine wpo_move (v := .bool false) rfl rfl ?_
    iterate 3 refine wpo_pass rfl rfl rfl rfl rfl ?_
    refine wpo_passu rfl rfl rfl rfl ?_
    refine wpo_passu rfl rfl rfl rfl ?_
    refine wpo_pass rfl rfl rfl rfl rfl ?_
    refine wpo_pass rfl rfl rfl rfl rfl ?_
    refine wpo_pickf (v := .bool false) rfl rfl rfl rfl ?_
    refine wpo_assign (v := .bool false) rfl rfl ?_
    exact wpo_nil ⟨(congrArg Value.bool (by first | (simp only [h105, h108, b0, b1, b2, b3, b4, b5, b6, b7, b8, b9]; done) | simp [h105, h108])), rfl⟩
  ·
   rintro f121 w122 ⟨e123, rfl⟩
   refine wpf_ret ?_
   refine ⟨.bool (((((decide (1 ≤ r.th)) && (decide (r.th ≤ 8))) && (decide (0 ≤ r.ve))) && (decide (r.ve ≤ 5))) && (!(r.wk && r.wr))), res1 rfl e123, ?_, hb104⟩
   simp [rightOk, inR, Bool.and_assoc, h105]
theorem fo_29_2 : fieldOff Try.prog 29 2 = some 2 := by kernel_rfl
theorem gf_105 : goFn Try.prog 105 = true := by kernel_rfl
theorem gf_54 : goFn Try.prog 54 = true := by kernel_rfl
theorem gf_85 : goFn Try.prog 85 = true := by kernel_rfl
theorem zt_29 : zeroTy Try.prog 29 = some (.agg #[.int .i64 0, .int .i64 0, .bool false, .bool false, .bool false]) := by kernel_rfl
theorem l6In_c (n lo hi : Int) (w : World) : CallsR Try.prog 85 #[.int .i64 n, .int .i64 lo, .int .i64 hi] w (fun v w' => v = .bool (inR n lo hi) ∧ w.grownBy w' none) := by
 refine calls_of_wpf (n := 15) Try.func85 rfl Try.ntmps85 rfl ?_
 have hb0 := World.grownBy.refl w none
 refine wpf_seq_region ?_
 refine wpo_assign (v := .bool false) rfl rfl ?_
 refine wpo_nil ?_
 refine wpf_seq_region_mid (fun f' w' => (f' 6 = .bool ((decide (lo ≤ n)) && (decide (n ≤ hi)))) ∧ w = w') ?_ ?_
 ·
  refine wpo_move (v := .int .i64 n) rfl rfl ?_
  refine wpo_move (v := .int .i64 lo) rfl rfl ?_
  refine wpo_geq (q := decide (lo ≤ n)) rfl rfl rfl rfl ?_
  refine wpo_move (v := .bool (decide (lo ≤ n))) rfl rfl ?_
  rcases bcases (decide (lo ≤ n)) with h101 | h101
  ·
   have h102 := of_decide_eq_true h101
   refine wpo_run rfl rfl rfl h101 ?_
   refine wpo_move (v := .int .i64 n) rfl rfl ?_
   refine wpo_run rfl rfl rfl h101 ?_
   refine wpo_move (v := .int .i64 hi) rfl rfl ?_
   refine wpo_run rfl rfl rfl h101 ?_
   refine wpo_leq (q := decide (n ≤ hi)) rfl rfl rfl rfl ?_
   refine wpo_pickt (v := .bool (decide (n ≤ hi))) rfl h101 rfl rfl ?_
   refine wpo_assign (v := .bool (decide (n ≤ hi))) rfl rfl ?_
   exact wpo_nil ⟨(congrArg Value.bool (by first | (simp only [h101, b0, b1, b2, b3, b4, b5, b6, b7, b8, b9]; done) | simp [h101])), rfl⟩
  ·
   have h103 := of_decide_eq_false h101
   iterate 3 refine wpo_pass rfl rfl rfl h101 rfl ?_
   refine wpo_pickf (v := .bool false) rfl h101 rfl rfl ?_
   refine wpo_assign (v := .bool false) rfl rfl ?_
   exact wpo_nil ⟨(congrArg Value.bool (by first | (simp only [h101, b0, b1, b2, b3, b4, b5, b6, b7, b8, b9]; done) | simp [h101])), rfl⟩
 ·
  rintro f104 w105 ⟨e106, rfl⟩
  refine wpf_ret ?_
  refine ⟨.bool ((decide (lo ≤ n)) && (decide (n ≤ hi))), res1 rfl e106, ?_, hb0⟩
  rfl
theorem inRange_c (n lo hi : Int) (w : World) : CallsR Try.prog 69 #[.int .i64 n, .int .i64 lo, .int .i64 hi] w (fun v w' => v = .bool (inR n lo hi) ∧ w.grownBy w' none) := by
 refine calls_of_wpf (n := 15) Try.func69 rfl Try.ntmps69 rfl ?_
 have hb0 := World.grownBy.refl w none
 refine wpf_seq_region ?_
 refine wpo_assign (v := .bool false) rfl rfl ?_
 refine wpo_nil ?_
 refine wpf_seq_region_mid (fun f' w' => (f' 6 = .bool ((decide (lo ≤ n)) && (decide (n ≤ hi)))) ∧ w = w') ?_ ?_
 ·
  refine wpo_move (v := .int .i64 lo) rfl rfl ?_
  refine wpo_move (v := .int .i64 n) rfl rfl ?_
  refine wpo_leq (q := decide (lo ≤ n)) rfl rfl rfl rfl ?_
  refine wpo_move (v := .bool (decide (lo ≤ n))) rfl rfl ?_
  rcases bcases (decide (lo ≤ n)) with h101 | h101
  ·
   have h102 := of_decide_eq_true h101
   refine wpo_run rfl rfl rfl h101 ?_
   refine wpo_move (v := .int .i64 n) rfl rfl ?_
   refine wpo_run rfl rfl rfl h101 ?_
   refine wpo_move (v := .int .i64 hi) rfl rfl ?_
   refine wpo_run rfl rfl rfl h101 ?_
   refine wpo_leq (q := decide (n ≤ hi)) rfl rfl rfl rfl ?_
   refine wpo_pickt (v := .bool (decide (n ≤ hi))) rfl h101 rfl rfl ?_
   refine wpo_assign (v := .bool (decide (n ≤ hi))) rfl rfl ?_
   exact wpo_nil ⟨(congrArg Value.bool (by first | (simp only [h101, b0, b1, b2, b3, b4, b5, b6, b7, b8, b9]; done) | simp [h101])), rfl⟩
  ·
   have h103 := of_decide_eq_false h101
   iterate 3 refine wpo_pass rfl rfl rfl h101 rfl ?_
   refine wpo_pickf (v := .bool false) rfl h101 rfl rfl ?_
   refine wpo_assign (v := .bool false) rfl rfl ?_
   exact wpo_nil ⟨(congrArg Value.bool (by first | (simp only [h101, b0, b1, b2, b3, b4, b5, b6, b7, b8, b9]; done) | simp [h101])), rfl⟩
 ·
  rintro f104 w105 ⟨e106, rfl⟩
  refine wpf_ret ?_
  refine ⟨.bool ((decide (lo ≤ n)) && (decide (n ≤ hi))), res1 rfl e106, ?_, hb0⟩
  rfl
theorem sLabelOk_c (l : Lab) (w : World) : CallsR Try.prog 35 #[.agg #[.int .i64 l.s, .int .i64 l.v]] w (fun v w' => v = .bool (labelOk l) ∧ w.grownBy w' none) := by
 refine calls_of_wpf (n := 11) Try.func35 rfl Try.ntmps35 rfl ?_
 have hb0 := World.grownBy.refl w none
 refine wpf_seq_region ?_
 refine wpo_box (v := .agg #[.int .i64 l.s, .int .i64 l.v]) (cs := #[.int .i64 l.s, .int .i64 l.v]) rfl rfl rfl ?_
 intro B101 w102 hN103
 have hlB101 := hN_ge hN103 hb0
 have hb104 := low0 hb0 hN103.grw
 refine wpo_assign (v := .bool false) rfl rfl ?_
 refine wpo_nil ?_
 refine wpf_seq_region_mid (fun f' w' => (f' 2 = .bool (inR l.s 0 3 && inR l.v 0 3)) ∧ w102.grownBy w' none) ?_ ?_
 ·
  refine wpo_fieldAddr (o' := 0) fo_40_0 rfl rfl rfl ?_
  refine wpo_load1 (v := .int .i64 l.s) ot_3 rfl (hN103.blk.cell rfl) rfl ?_
  refine wpo_call (vs := [.int .i64 l.s, .int .i64 0, .int .i64 3]) gf_85 (args_cons rfl (args_cons rfl (args_cons rfl args_nil))) rfl (l6In_c l.s 0 3 _) ?_
  rintro _ w115 ⟨rfl, hg116⟩
  have hb117 := low0 hb104 hg116
  refine wpo_move (v := .bool (inR l.s 0 3)) rfl rfl ?_
  rcases bcases (inR l.s 0 3) with h118 | h118
  ·
   refine wpo_run rfl rfl rfl h118 ?_
   refine wpo_fieldAddr (o' := 1) fo_40_1 rfl rfl rfl ?_
   refine wpo_run rfl rfl rfl h118 ?_
   have k119 := (hN103.blk.grown0 hg116)
   refine wpo_load1 (v := .int .i64 l.v) ot_3 rfl (k119.cell rfl) rfl ?_
   refine wpo_run rfl rfl rfl h118 ?_
   refine wpo_call (vs := [.int .i64 l.v, .int .i64 0, .int .i64 3]) gf_85 (args_cons rfl (args_cons rfl (args_cons rfl args_nil))) rfl (l6In_c l.v 0 3 _) ?_
   rintro _ w120 ⟨rfl, hg121⟩
   have hb122 := low0 hb117 hg121
   refine wpo_pickt (v := .bool (inR l.v 0 3)) rfl h118 rfl rfl ?_
   refine wpo_assign (v := .bool (inR l.v 0 3)) rfl rfl ?_
   exact wpo_nil ⟨(congrArg Value.bool (by first | (simp only [h118, b0, b1, b2, b3, b4, b5, b6, b7, b8, b9]; done) | simp [h118])), (grown_trans hg116 hg121)⟩
  ·
   iterate 3 refine wpo_pass rfl rfl rfl h118 rfl ?_
   refine wpo_pickf (v := .bool false) rfl h118 rfl rfl ?_
   refine wpo_assign (v := .bool false) rfl rfl ?_
   exact wpo_nil ⟨(congrArg Value.bool (by first | (simp only [h118, b0, b1, b2, b3, b4, b5, b6, b7, b8, b9]; done) | simp [h118])), hg116⟩
 ·
  rintro f123 w124 ⟨e125, hg126⟩
  have hb127 := low0 hb104 hg126
  refine wpf_ret ?_
  refine ⟨.bool (inR l.s 0 3 && inR l.v 0 3), res1 rfl e125, ?_, hb127⟩
  rfl
theorem l1In_c (a b : Int) (ha : 0 ≤ a ∧ a ≤ 3) (hb : 0 ≤ b ∧ b ≤ 3) (w : World) : CallsR Try.prog 105 #[.int .i64 a, .int .i64 b] w (fun v w' => v = .bool (l1In a b) ∧ w.grownBy w' none) := by
 refine calls_of_wpf (n := 17) Try.func105 rfl Try.ntmps105 rfl ?_
 have hb0 := World.grownBy.refl w none
 refine wpf_seq_region ?_
 refine wpo_assign (v := .bool false) rfl rfl ?_
 refine wpo_nil ?_
 refine wpf_seq_region_mid (fun f' w' => (f' 4 = .bool ((decide (a % 2 ≤ b % 2)) && (decide (a / 2 ≤ b / 2)))) ∧ w = w') ?_ ?_
 ·
  refine wpo_move (v := .int .i64 a) rfl rfl ?_
  refine wpo_rem (c := a % 2) rfl rfl (by omega) (by omega) (by omega) rfl rfl ?_
  refine wpo_move (v := .int .i64 b) rfl rfl ?_
  refine wpo_rem (c := b % 2) rfl rfl (by omega) (by omega) (by omega) rfl rfl ?_
  refine wpo_leq (q := decide (a % 2 ≤ b % 2)) rfl rfl rfl rfl ?_
  refine wpo_move (v := .bool (decide (a % 2 ≤ b % 2))) rfl rfl ?_
  rcases bcases (decide (a % 2 ≤ b % 2)) with h101 | h101
  ·
   have h102 := of_decide_eq_true h101
   refine wpo_run rfl rfl rfl h101 ?_
   refine wpo_move (v := .int .i64 a) rfl rfl ?_
   refine wpo_run rfl rfl rfl h101 ?_
   refine wpo_quo (c := a / 2) rfl rfl (by omega) (by omega) (by omega) rfl rfl ?_
   refine wpo_run rfl rfl rfl h101 ?_
   refine wpo_move (v := .int .i64 b) rfl rfl ?_
   refine wpo_run rfl rfl rfl h101 ?_
   refine wpo_quo (c := b / 2) rfl rfl (by omega) (by omega) (by omega) rfl rfl ?_
   refine wpo_run rfl rfl rfl h101 ?_
   refine wpo_leq (q := decide (a / 2 ≤ b / 2)) rfl rfl rfl rfl ?_
   refine wpo_pickt (v := .bool (decide (a / 2 ≤ b / 2))) rfl h101 rfl rfl ?_
   refine wpo_assign (v := .bool (decide (a / 2 ≤ b / 2))) rfl rfl ?_
   exact wpo_nil ⟨(congrArg Value.bool (by first | (simp only [h101, b0, b1, b2, b3, b4, b5, b6, b7, b8, b9]; done) | simp [h101])), rfl⟩
  ·
   have h103 := of_decide_eq_false h101
   iterate 5 refine wpo_pass rfl rfl rfl h101 rfl ?_
   refine wpo_pickf (v := .bool false) rfl h101 rfl rfl ?_
   refine wpo_assign (v := .bool false) rfl rfl ?_
   exact wpo_nil ⟨(congrArg Value.bool (by first | (simp only [h101, b0, b1, b2, b3, b4, b5, b6, b7, b8, b9]; done) | simp [h101])), rfl⟩
 ·
  rintro f104 w105 ⟨e106, rfl⟩
  refine wpf_ret ?_
  refine ⟨.bool ((decide (a % 2 ≤ b % 2)) && (decide (a / 2 ≤ b / 2))), res1 rfl e106, ?_, hb0⟩
  rfl
theorem l1Flow_c (a b : Lab) (hla : labelOk a = true) (hlb : labelOk b = true) (w : World) : CallsR Try.prog 86 #[.agg #[.int .i64 a.s, .int .i64 a.v], .agg #[.int .i64 b.s, .int .i64 b.v]] w (fun v w' => v = .bool (flow a b) ∧ w.grownBy w' none) := by
 refine calls_of_wpf (n := 17) Try.func86 rfl Try.ntmps86 rfl ?_
 have hb0 := World.grownBy.refl w none
 obtain ⟨⟨ha1, ha2⟩, ha3, ha4⟩ := (labelOk_iff a).1 hla
 obtain ⟨⟨hc1, hc2⟩, hc3, hc4⟩ := (labelOk_iff b).1 hlb
 refine wpf_seq_region ?_
 refine wpo_box (v := .agg #[.int .i64 a.s, .int .i64 a.v]) (cs := #[.int .i64 a.s, .int .i64 a.v]) rfl rfl rfl ?_
 intro B101 w102 hN103
 have hlB101 := hN_ge hN103 hb0
 have hb104 := low0 hb0 hN103.grw
 refine wpo_box (v := .agg #[.int .i64 b.s, .int .i64 b.v]) (cs := #[.int .i64 b.s, .int .i64 b.v]) rfl rfl rfl ?_
 intro B105 w106 hN107
 have hlB105 := hN_ge hN107 hb104
 have lt_B101_B105 := hN_gtl hN107 (hN103.blk).lt
 have hb108 := low0 hb104 hN107.grw
 refine wpo_assign (v := .bool false) rfl rfl ?_
 refine wpo_nil ?_
 refine wpf_seq_region_mid (fun f' w' => (f' 4 = .bool (l1In a.s b.s && l1In b.v a.v)) ∧ w106.grownBy w' none) ?_ ?_
 ·
  refine wpo_fieldAddr (o' := 0) fo_40_0 rfl rfl rfl ?_
  have k122 := (hN103.blk.grown0 hN107.grw)
  refine wpo_load1 (v := .int .i64 a.s) ot_3 rfl (k122.cell rfl) rfl ?_
  refine wpo_fieldAddr (o' := 0) fo_40_0 rfl rfl rfl ?_
  refine wpo_load1 (v := .int .i64 b.s) ot_3 rfl (hN107.blk.cell rfl) rfl ?_
  refine wpo_call (vs := [.int .i64 a.s, .int .i64 b.s]) gf_105 (args_cons rfl (args_cons rfl args_nil)) rfl (l1In_c a.s b.s (by omega) (by omega) _) ?_
  rintro _ w123 ⟨rfl, hg124⟩
  have hb125 := low0 hb108 hg124
  refine wpo_move (v := .bool (l1In a.s b.s)) rfl rfl ?_
  rcases bcases (l1In a.s b.s) with h126 | h126
  ·
   refine wpo_run rfl rfl rfl h126 ?_
   refine wpo_fieldAddr (o' := 1) fo_40_1 rfl rfl rfl ?_
   refine wpo_run rfl rfl rfl h126 ?_
   have k127 := (hN107.blk.grown0 hg124)
   refine wpo_load1 (v := .int .i64 b.v) ot_3 rfl (k127.cell rfl) rfl ?_
   refine wpo_run rfl rfl rfl h126 ?_
   refine wpo_fieldAddr (o' := 1) fo_40_1 rfl rfl rfl ?_
   refine wpo_run rfl rfl rfl h126 ?_
   have k128 := (k122.grown0 hg124)
   refine wpo_load1 (v := .int .i64 a.v) ot_3 rfl (k128.cell rfl) rfl ?_
   refine wpo_run rfl rfl rfl h126 ?_
   refine wpo_call (vs := [.int .i64 b.v, .int .i64 a.v]) gf_105 (args_cons rfl (args_cons rfl args_nil)) rfl (l1In_c b.v a.v (by omega) (by omega) _) ?_
   rintro _ w129 ⟨rfl, hg130⟩
   have hb131 := low0 hb125 hg130
   refine wpo_pickt (v := .bool (l1In b.v a.v)) rfl h126 rfl rfl ?_
   refine wpo_assign (v := .bool (l1In b.v a.v)) rfl rfl ?_
   exact wpo_nil ⟨(congrArg Value.bool (by first | (simp only [h126, b0, b1, b2, b3, b4, b5, b6, b7, b8, b9]; done) | simp [h126])), (grown_trans hg124 hg130)⟩
  ·
   iterate 5 refine wpo_pass rfl rfl rfl h126 rfl ?_
   refine wpo_pickf (v := .bool false) rfl h126 rfl rfl ?_
   refine wpo_assign (v := .bool false) rfl rfl ?_
   exact wpo_nil ⟨(congrArg Value.bool (by first | (simp only [h126, b0, b1, b2, b3, b4, b5, b6, b7, b8, b9]; done) | simp [h126])), hg124⟩
 ·
  rintro f132 w133 ⟨e134, hg135⟩
  have hb136 := low0 hb108 hg135
  refine wpf_ret ?_
  refine ⟨.bool (l1In a.s b.s && l1In b.v a.v), res1 rfl e134, ?_, hb136⟩
  rfl
theorem sRightOk_c (r : Rt) (w : World) : CallsR Try.prog 54 #[.agg #[.int .i64 r.th, .int .i64 r.ve, .bool r.rd, .bool r.wr, .bool r.wk]] w (fun v w' => v = .bool (rightOk r) ∧ w.grownBy w' none) := by
 refine calls_of_wpf (n := 26) Try.func54 rfl Try.ntmps54 rfl ?_
 have hb0 := World.grownBy.refl w none
 refine wpf_seq_region ?_
 refine wpo_box (v := .agg #[.int .i64 r.th, .int .i64 r.ve, .bool r.rd, .bool r.wr, .bool r.wk]) (cs := #[.int .i64 r.th, .int .i64 r.ve, .bool r.rd, .bool r.wr, .bool r.wk]) rfl rfl rfl ?_
 intro B101 w102 hN103
 have hlB101 := hN_ge hN103 hb0
 have hb104 := low0 hb0 hN103.grw
 refine wpo_assign (v := .bool false) rfl rfl ?_
 refine wpo_nil ?_
 refine wpf_seq ?_
 refine wpf_seq_region ?_
 refine wpo_fieldAddr (o' := 0) fo_29_0 rfl rfl rfl ?_
 refine wpo_load1 (v := .int .i64 r.th) ot_3 rfl (hN103.blk.cell rfl) rfl ?_
 refine wpo_eql (q := decide (r.th = 0)) rfl rfl rfl rfl ?_
 refine wpo_nil ?_
 refine wpf_cond rfl (fun h105 => ?_) (fun h105 => ?_)
 ·
  have h106 := of_decide_eq_true h105
  refine wpf_seq_region ?_
  refine wpo_loadn (vs := [.int .i64 r.th, .int .i64 r.ve, .bool r.rd, .bool r.wr, .bool r.wk]) rt_29 rfl rfl (hN103.blk.rangeL 0 5 rfl) rfl ?_
  refine wpo_build (ps := []) (v := .agg #[.int .i64 0, .int .i64 0, .bool false, .bool false, .bool false]) parts_nil (by kernel_rfl) rfl ?_
  refine wpo_eqs (q := decide (r = Rt.zero)) rfl rfl (eqG_29 _ _ r Rt.zero _) (eqV_29 r Rt.zero _) rfl rfl ?_
  refine wpo_assign (v := .bool (decide (r = Rt.zero))) rfl rfl ?_
  refine wpo_nil ?_
  refine wpf_ret ?_
  refine thn_r ?_
  refine ⟨.bool (decide (r = Rt.zero)), res1 rfl rfl, ?_, hb104⟩
  exact congrArg Value.bool (rightOk_z h105)
 ·
  have h107 := of_decide_eq_false h105
  refine wpf_skip ?_
  refine thn_n ?_
  refine wpf_seq_region_mid (fun f' w' => (f' 2 = .bool ((inR r.th 1 8 && inR r.ve 0 5) && (!(r.wk && r.wr)))) ∧ w102.grownBy w' none) ?_ ?_
  ·
   refine wpo_fieldAddr (o' := 0) fo_29_0 rfl rfl rfl ?_
   refine wpo_load1 (v := .int .i64 r.th) ot_3 rfl (hN103.blk.cell rfl) rfl ?_
   refine wpo_call (vs := [.int .i64 r.th, .int .i64 1, .int .i64 8]) gf_85 (args_cons rfl (args_cons rfl (args_cons rfl args_nil))) rfl (l6In_c r.th 1 8 _) ?_
   rintro _ w119 ⟨rfl, hg120⟩
   have hb121 := low0 hb104 hg120
   refine wpo_move (v := .bool (inR r.th 1 8)) rfl rfl ?_
   rcases bcases (inR r.th 1 8) with h122 | h122
   ·
    refine wpo_run rfl rfl rfl h122 ?_
    refine wpo_fieldAddr (o' := 1) fo_29_1 rfl rfl rfl ?_
    refine wpo_run rfl rfl rfl h122 ?_
    have k123 := (hN103.blk.grown0 hg120)
    refine wpo_load1 (v := .int .i64 r.ve) ot_3 rfl (k123.cell rfl) rfl ?_
    refine wpo_run rfl rfl rfl h122 ?_
    refine wpo_call (vs := [.int .i64 r.ve, .int .i64 0, .int .i64 5]) gf_85 (args_cons rfl (args_cons rfl (args_cons rfl args_nil))) rfl (l6In_c r.ve 0 5 _) ?_
    rintro _ w124 ⟨rfl, hg125⟩
    have hb126 := low0 hb121 hg125
    refine wpo_pickt (v := .bool (inR r.ve 0 5)) rfl h122 rfl rfl ?_
    refine wpo_move (v := .bool (inR r.ve 0 5)) rfl rfl ?_
    rcases bcases (inR r.ve 0 5) with h127 | h127
    ·
     refine wpo_run rfl rfl rfl h127 ?_
     refine wpo_fieldAddr (o' := 4) fo_29_4 rfl rfl rfl ?_
     refine wpo_run rfl rfl rfl h127 ?_
     have k128 := (k123.grown0 hg125)
     refine wpo_load1 (v := .bool r.wk) ot_4 rfl (k128.cell rfl) rfl ?_
     refine wpo_run rfl rfl rfl h127 ?_
     refine wpo_move (v := .bool r.wk) rfl rfl ?_
     rcases bcases (r.wk) with h129 | h129
     ·
      refine wpo_run rfl rfl rfl h129 ?_
      refine wpo_fieldAddr (o' := 3) fo_29_3 rfl rfl rfl ?_
      refine wpo_run rfl rfl rfl h129 ?_
      refine wpo_load1 (v := .bool r.wr) ot_4 rfl (k128.cell rfl) rfl ?_
      refine wpo_run rfl rfl rfl h127 ?_
      refine wpo_pickt (v := .bool r.wr) rfl h129 rfl rfl ?_
      refine wpo_run rfl rfl rfl h127 ?_
      refine wpo_not (b' := !r.wr) rfl rfl rfl ?_
      refine wpo_pickt (v := .bool (!r.wr)) rfl h127 rfl rfl ?_
      refine wpo_assign (v := .bool (!r.wr)) rfl rfl ?_
      exact wpo_nil ⟨(congrArg Value.bool (by first | (simp only [h105, h122, h127, h129, b0, b1, b2, b3, b4, b5, b6, b7, b8, b9]; done) | simp [h105, h122, h127, h129])), (grown_trans hg120 hg125)⟩
     ·
      refine wpo_pass rfl rfl rfl h129 rfl ?_
      refine wpo_pass rfl rfl rfl h129 rfl ?_
      refine wpo_run rfl rfl rfl h127 ?_
      refine wpo_pickf (v := .bool false) rfl h129 rfl rfl ?_
      refine wpo_run rfl rfl rfl h127 ?_
      refine wpo_not (b' := true) rfl rfl rfl ?_
      refine wpo_pickt (v := .bool true) rfl h127 rfl rfl ?_
      refine wpo_assign (v := .bool true) rfl rfl ?_
      exact wpo_nil ⟨(congrArg Value.bool (by first | (simp only [h105, h122, h127, h129, b0, b1, b2, b3, b4, b5, b6, b7, b8, b9]; done) | simp [h105, h122, h127, h129])), (grown_trans hg120 hg125)⟩
    ·
     iterate 3 refine wpo_pass rfl rfl rfl h127 rfl ?_
     refine wpo_passu rfl rfl rfl rfl ?_
     refine wpo_passu rfl rfl rfl rfl ?_
     refine wpo_pass rfl rfl rfl h127 rfl ?_
     refine wpo_pass rfl rfl rfl h127 rfl ?_
     refine wpo_pickf (v := .bool false) rfl h127 rfl rfl ?_
     refine wpo_assign (v := .bool false) rfl rfl ?_
     exact wpo_nil ⟨(congrArg Value.bool (by first | (simp only [h105, h122, h127, b0, b1, b2, b3, b4, b5, b6, b7, b8, b9]; done) | simp [h105, h122, h127])), (grown_trans hg120 hg125)⟩
   ·
    iterate 3 refine wpo_pass rfl rfl rfl h122 rfl ?_
    refine wpo_pickf (v := .bool false) rfl h122 rfl rfl ?_
    refine wpo_move (v := .bool false) rfl rfl ?_
    iterate 3 refine wpo_pass rfl rfl rfl rfl rfl ?_
    refine wpo_passu rfl rfl rfl rfl ?_
    refine wpo_passu rfl rfl rfl rfl ?_
    refine wpo_pass rfl rfl rfl rfl rfl ?_
    refine wpo_pass rfl rfl rfl rfl rfl ?_
    refine wpo_pickf (v := .bool false) rfl rfl rfl rfl ?_
    refine wpo_assign (v := .bool false) rfl rfl ?_
    exact wpo_nil ⟨(congrArg Value.bool (by first | (simp only [h105, h122, b0, b1, b2, b3, b4, b5, b6, b7, b8, b9]; done) | simp [h105, h122])), hg120⟩
  ·
   rintro f130 w131 ⟨e132, hg133⟩
   have hb134 := low0 hb104 hg133
   refine wpf_ret ?_
   refine ⟨.bool ((inR r.th 1 8 && inR r.ve 0 5) && (!(r.wk && r.wr))), res1 rfl e132, ?_, hb134⟩
   exact congrArg Value.bool (rightOk_n h105)
theorem es_22 : elemSz Try.prog 22 = some 5 := by kernel_rfl
theorem es_27 : elemSz Try.prog 27 = some 5 := by kernel_rfl
theorem fo_24_0 : fieldOff Try.prog 24 0 = some 0 := by kernel_rfl
theorem fo_24_1 : fieldOff Try.prog 24 1 = some 1 := by kernel_rfl
theorem fo_24_2 : fieldOff Try.prog 24 2 = some 2 := by kernel_rfl
theorem fo_24_3 : fieldOff Try.prog 24 3 = some 3 := by kernel_rfl
theorem fo_24_4 : fieldOff Try.prog 24 4 = some 4 := by kernel_rfl
theorem gf_13 : goFn Try.prog 13 = true := by kernel_rfl
theorem gf_15 : goFn Try.prog 15 = true := by kernel_rfl
theorem gf_16 : goFn Try.prog 16 = true := by kernel_rfl
theorem gf_18 : goFn Try.prog 18 = true := by kernel_rfl
theorem gf_20 : goFn Try.prog 20 = true := by kernel_rfl
theorem gf_58 : goFn Try.prog 58 = true := by kernel_rfl
theorem mk_27 : mkTy Try.prog 27 = some (29, 5, 24, some (.agg #[.int .i64 0, .int .i64 0, .bool false, .bool false, .bool false])) := by kernel_rfl
theorem rt_24 : rowTy Try.prog 24 = some 5 := by kernel_rfl
theorem toRight_c (r : Rt) (w : World) : CallsR Try.prog 16 #[.agg #[.int .i64 r.th, .int .i64 r.ve, .bool r.rd, .bool r.wr, .bool r.wk]] w (fun v w' => v = .agg #[.int .i64 r.th, .int .i64 r.ve, .bool r.rd, .bool r.wr, .bool r.wk] ∧ w.grownBy w' none) := by
 refine calls_of_wpf (n := 20) Try.func16 rfl Try.ntmps16 rfl ?_
 have hb0 := World.grownBy.refl w none
 refine wpf_seq_region ?_
 refine wpo_box (v := .agg #[.int .i64 r.th, .int .i64 r.ve, .bool r.rd, .bool r.wr, .bool r.wk]) (cs := #[.int .i64 r.th, .int .i64 r.ve, .bool r.rd, .bool r.wr, .bool r.wk]) rfl rfl rfl ?_
 intro B101 w102 hN103
 have hlB101 := hN_ge hN103 hb0
 have hb104 := low0 hb0 hN103.grw
 refine wpo_alloc (cs := #[.int .i64 0, .int .i64 0, .bool false, .bool false, .bool false]) zt_29 rfl rfl ?_
 intro B105 w106 hN107
 have hlB105 := hN_ge hN107 hb104
 have lt_B101_B105 := hN_gtl hN107 (hN103.blk).lt
 have hb108 := low0 hb104 hN107.grw
 refine wpo_nil ?_
 refine wpf_seq_region ?_
 refine wpo_alloc (cs := #[.int .i64 0, .int .i64 0, .bool false, .bool false, .bool false]) zt_29 rfl rfl ?_
 intro B109 w110 hN111
 have hlB109 := hN_ge hN111 hb108
 have k112 := (hN103.blk.grown0 hN107.grw)
 have lt_B101_B109 := hN_gtl hN111 (k112).lt
 have lt_B105_B109 := hN_gtl hN111 (hN107.blk).lt
 have hb113 := low0 hb108 hN111.grw
 refine wpo_nil ?_
 refine wpf_seq_region ?_
 refine wpo_fieldAddr (o' := 0) fo_24_0 rfl rfl rfl ?_
 have k114 := (k112.grown0 hN111.grw)
 refine wpo_load1 (v := .int .i64 r.th) ot_3 rfl (k114.cell rfl) rfl ?_
 refine wpo_fieldAddr (o' := 0) fo_29_0 rfl rfl rfl ?_
 refine wpo_store1 (v := .int .i64 r.th) (cs' := #[.int .i64 r.th, .int .i64 0, .bool false, .bool false, .bool false]) ot_3 rfl rfl rfl hN111.blk (Nat.le_of_ble_eq_true rfl) rfl ?_
 intro w115 hS116
 have hb117 := low1 hb113 hS116.grw (by omega)
 refine wpo_nil ?_
 refine wpf_seq_region ?_
 refine wpo_fieldAddr (o' := 1) fo_24_1 rfl rfl rfl ?_
 have k118 := (k114.grown hS116.grw (some_ne (by omega)))
 refine wpo_load1 (v := .int .i64 r.ve) ot_3 rfl (k118.cell rfl) rfl ?_
 refine wpo_fieldAddr (o' := 1) fo_29_1 rfl rfl rfl ?_
 refine wpo_store1 (v := .int .i64 r.ve) (cs' := #[.int .i64 r.th, .int .i64 r.ve, .bool false, .bool false, .bool false]) ot_3 rfl rfl rfl hS116.blk (Nat.le_of_ble_eq_true rfl) rfl ?_
 intro w119 hS120
 have hb121 := low1 hb117 hS120.grw (by omega)
 refine wpo_nil ?_
 refine wpf_seq_region ?_
 refine wpo_fieldAddr (o' := 2) fo_24_2 rfl rfl rfl ?_
 have k122 := (k118.grown hS120.grw (some_ne (by omega)))
 refine wpo_load1 (v := .bool r.rd) ot_4 rfl (k122.cell rfl) rfl ?_
 refine wpo_fieldAddr (o' := 2) fo_29_2 rfl rfl rfl ?_
 refine wpo_store1 (v := .bool r.rd) (cs' := #[.int .i64 r.th, .int .i64 r.ve, .bool r.rd, .bool false, .bool false]) ot_4 rfl rfl rfl hS120.blk (Nat.le_of_ble_eq_true rfl) rfl ?_
 intro w123 hS124
 have hb125 := low1 hb121 hS124.grw (by omega)
 refine wpo_nil ?_
 refine wpf_seq_region ?_
 refine wpo_fieldAddr (o' := 3) fo_24_3 rfl rfl rfl ?_
 have k126 := (k122.grown hS124.grw (some_ne (by omega)))
 refine wpo_load1 (v := .bool r.wr) ot_4 rfl (k126.cell rfl) rfl ?_
 refine wpo_fieldAddr (o' := 3) fo_29_3 rfl rfl rfl ?_
 refine wpo_store1 (v := .bool r.wr) (cs' := #[.int .i64 r.th, .int .i64 r.ve, .bool r.rd, .bool r.wr, .bool false]) ot_4 rfl rfl rfl hS124.blk (Nat.le_of_ble_eq_true rfl) rfl ?_
 intro w127 hS128
 have hb129 := low1 hb125 hS128.grw (by omega)
 refine wpo_nil ?_
 refine wpf_seq_region ?_
 refine wpo_fieldAddr (o' := 4) fo_24_4 rfl rfl rfl ?_
 have k130 := (k126.grown hS128.grw (some_ne (by omega)))
 refine wpo_load1 (v := .bool r.wk) ot_4 rfl (k130.cell rfl) rfl ?_
 refine wpo_fieldAddr (o' := 4) fo_29_4 rfl rfl rfl ?_
 refine wpo_store1 (v := .bool r.wk) (cs' := #[.int .i64 r.th, .int .i64 r.ve, .bool r.rd, .bool r.wr, .bool r.wk]) ot_4 rfl rfl rfl hS128.blk (Nat.le_of_ble_eq_true rfl) rfl ?_
 intro w131 hS132
 have hb133 := low1 hb129 hS132.grw (by omega)
 refine wpo_nil ?_
 refine wpf_seq_region ?_
 refine wpo_loadn (vs := [.int .i64 r.th, .int .i64 r.ve, .bool r.rd, .bool r.wr, .bool r.wk]) rt_29 rfl rfl (hS132.blk.rangeL 0 5 rfl) rfl ?_
 have k134 := ((((((hN107.blk.grown0 hN111.grw).grown hS116.grw (some_ne (by omega))).grown hS120.grw (some_ne (by omega))).grown hS124.grw (some_ne (by omega))).grown hS128.grw (some_ne (by omega))).grown hS132.grw (some_ne (by omega)))
 refine wpo_storen (vs := [.int .i64 r.th, .int .i64 r.ve, .bool r.rd, .bool r.wr, .bool r.wk]) (cs' := #[.int .i64 r.th, .int .i64 r.ve, .bool r.rd, .bool r.wr, .bool r.wk]) rt_29 rfl rfl rfl (by simp [Value.oneCell']) k134 (Nat.le_of_ble_eq_true rfl) rfl ?_
 intro w135 hS136
 have hb137 := low1 hb133 hS136.grw (by omega)
 refine wpo_nil ?_
 refine wpf_ret ?_
 refine ⟨.agg #[.int .i64 r.th, .int .i64 r.ve, .bool r.rd, .bool r.wr, .bool r.wk], resC rfl (resCell_mk (vs := [.int .i64 r.th, .int .i64 r.ve, .bool r.rd, .bool r.wr, .bool r.wk]) rt_29 rfl rfl (hS136.blk.rangeL 0 5 rfl)), ?_, hb137⟩
 rfl
theorem szRightS_c (m : Int) (w : World) (xs : List Rt) (a : Option Addr) (c : Nat) (hn : xs.length ≤ 9223372036854775807) (hm : 0 ≤ m ∧ m ≤ 1048576) : CallsR Try.prog 13 #[.slice a xs.length c, .int .i64 m] w (fun v w' => ∃ n : Int, v = .int .i64 n ∧ (0 ≤ n → (xs.length : Int) + n ≤ m) ∧ -1 ≤ n ∧ n ≤ m ∧ w.grownBy w' none) := by
 refine calls_of_wpf (n := 12) Try.func13 rfl Try.ntmps13 rfl ?_
 have hb0 := World.grownBy.refl w none
 refine wpf_seq_region ?_
 refine wpo_assign (v := .int .i64 0) rfl rfl ?_
 refine wpo_nil ?_
 refine wpf_seq_region ?_
 refine wpo_move (v := .int .i64 m) rfl rfl ?_
 refine wpo_move (v := .slice a xs.length c) rfl rfl ?_
 refine wpo_len (by kernel_rfl) rfl rfl ?_
 refine wpo_sub (c := m - (xs.length : Int)) rfl rfl (by omega) (by omega) (by omega) rfl ?_
 refine wpo_assign (v := .int .i64 (m - (xs.length : Int))) rfl rfl ?_
 refine wpo_nil ?_
 refine wpf_seq ?_
 refine wpf_seq_region ?_
 refine wpo_move (v := .int .i64 (m - (xs.length : Int))) rfl rfl ?_
 refine wpo_lss (q := decide (m - (xs.length : Int) < 0)) rfl rfl rfl rfl ?_
 refine wpo_nil ?_
 refine wpf_cond rfl (fun h101 => ?_) (fun h101 => ?_)
 ·
  have h102 := of_decide_eq_true h101
  refine wpf_seq_region ?_
  refine wpo_assign (v := .int .i64 (-1)) rfl rfl ?_
  refine wpo_nil ?_
  refine wpf_ret ?_
  refine thn_r ?_
  refine ⟨.int .i64 (-1), res1 rfl rfl, (-1), rfl, by omega, by omega, by omega, hb0⟩
 ·
  have h103 := of_decide_eq_false h101
  refine wpf_skip ?_
  refine thn_n ?_
  refine wpf_seq_region ?_
  refine wpo_move (v := .int .i64 (m - (xs.length : Int))) rfl rfl ?_
  refine wpo_assign (v := .int .i64 (m - (xs.length : Int))) rfl rfl ?_
  refine wpo_nil ?_
  refine wpf_ret ?_
  refine ⟨.int .i64 (m - (xs.length : Int)), res1 rfl rfl, (m - (xs.length : Int)), rfl, by omega, by omega, by omega, hb0⟩
theorem toRightS_c (w : World) (xs : List Rt) (a : Option Addr) (c : Nat) (hs : SlAt w a 5 (xs.map Rt.cells)) (hn : xs.length ≤ 1048576) : CallsR Try.prog 15 #[.slice a xs.length c] w (fun v w' => ∃ B : Nat, v = .slice (some ⟨B, 0, none⟩) xs.length xs.length ∧ w.heap.size ≤ B ∧ Blk w' B 29 (xs.flatMap Rt.cells).toArray ∧ w.grownBy w' none) := by
 refine calls_of_wpf (n := 23) Try.func15 rfl Try.ntmps15 rfl ?_
 have hb0 := World.grownBy.refl w none
 refine wpf_seq_region ?_
 refine wpo_assign (v := .slice none 0 0) rfl rfl ?_
 refine wpo_nil ?_
 refine wpf_seq_region ?_
 refine wpo_move (v := .slice a xs.length c) rfl rfl ?_
 refine wpo_len (by kernel_rfl) rfl rfl ?_
 refine wpo_make (g := Rt.cells) (z := Rt.zero) (c := xs.length) mk_27 rfl wide_rt (by omega) rfl rfl (by omega) (by omega) rfl ?_
 intro B101 w102 hN103
 have hlB101 := hN_ge hN103 hb0
 have hb104 := low0 hb0 hN103.grw
 refine wpo_assign (v := .slice (some ⟨B101, 0, none⟩) xs.length xs.length) rfl rfl ?_
 refine wpo_nil ?_
 refine wpf_seq ?_
 refine wpf_seq_region ?_
 refine wpo_assign (v := .int .i64 0) rfl rfl ?_
 refine wpo_nil ?_
 refine wpf_block ?_
 refine wpf_loopN (fun mm f' w' => ∃ (k : Nat), mm = xs.length - k ∧ k ≤ xs.length ∧ f' 4 = .int .i64 (k : Int) ∧ f' 0 = .slice a xs.length c ∧ f' 2 = .slice none 0 0 ∧ f' 3 = .slice (some ⟨B101, 0, none⟩) xs.length xs.length ∧ w.grownBy w' none ∧ Blk w' B101 29 ((fill xs Rt.zero k).flatMap Rt.cells).toArray) (xs.length - 0) ⟨0, rfl, (Nat.zero_le _), rfl, rfl, rfl, rfl, hb104, (by rw [fill_zero]; exact hN103.blk)⟩ ?_
 rintro mm f105 w106 ⟨k, hm108, hk, e109, e110, e111, e112, hb107, k113⟩
 refine wpf_seq ?_
 refine wpf_seq_region ?_
 refine wpo_move (v := .int .i64 (k : Int)) e109 rfl ?_
 refine wpo_move (v := .slice a xs.length c) e110 rfl ?_
 refine wpo_len (by kernel_rfl) rfl rfl ?_
 refine wpo_lss (q := decide ((k : Int) < (xs.length : Int))) rfl rfl rfl rfl ?_
 refine wpo_nil ?_
 refine wpf_cond rfl (fun h114 => ?_) (fun h114 => ?_)
 ·
  have h115 := of_decide_eq_true h114
  refine wpf_skip ?_
  refine thn_n ?_
  refine wpf_seq ?_
  refine wpf_block ?_
  refine wpf_region ?_
  refine wpo_move (v := .slice (some ⟨B101, 0, none⟩) xs.length xs.length) e112 rfl ?_
  refine wpo_move (v := .int .i64 (k : Int)) e109 rfl ?_
  refine wpo_move (v := .slice a xs.length c) e110 rfl ?_
  refine wpo_move (v := .int .i64 (k : Int)) e109 rfl ?_
  obtain ⟨x116, hx117⟩ := get_lt (l := xs) (i := k) (by omega)
  obtain ⟨b118, q119, o120, ha121, ho122, hr123⟩ := SlAt.at hs (map_get hx117)
  refine wpo_indexE es_22 rfl rfl ha121 ho122 (by omega) (by omega) rfl ?_
  refine wpo_loadn (vs := [.int .i64 x116.th, .int .i64 x116.ve, .bool x116.rd, .bool x116.wr, .bool x116.wk]) rt_24 rfl rfl (range_sub (range_low hr123 hb107) 0 5 rfl) rfl ?_
  refine wpo_call (vs := [.agg #[.int .i64 x116.th, .int .i64 x116.ve, .bool x116.rd, .bool x116.wr, .bool x116.wk]]) gf_16 (args_cons rfl args_nil) rfl (toRight_c x116 _) ?_
  rintro _ w124 ⟨rfl, hg125⟩
  have hb126 := low0 hb107 hg125
  refine wpo_indexAddr (o' := k * 5) es_27 rfl rfl (by omega) (by omega) (by omega) rfl ?_
  have k127 := (k113.grown0 hg125)
  refine wpo_storen (vs := [.int .i64 x116.th, .int .i64 x116.ve, .bool x116.rd, .bool x116.wr, .bool x116.wk]) (cs' := (((fill xs Rt.zero k).set k x116).flatMap Rt.cells).toArray) rt_29 rfl rfl rfl (by simp [Value.oneCell']) k127 (rows_le wide_rt (by rw [fill_len hk]; omega)) (rows_setA wide_rt (by rw [fill_len hk]; omega) x116) ?_
  intro w128 hS129
  have hb130 := low1 hb126 hS129.grw (by omega)
  refine wpo_nil ?_
  refine blk_n ?_
  refine thn_n ?_
  refine wpf_region ?_
  refine wpo_move (v := .int .i64 (k : Int)) e109 rfl ?_
  refine wpo_add (c := (k : Int) + 1) rfl rfl (by omega) (by omega) (by omega) rfl ?_
  refine wpo_assign (v := .int .i64 ((k : Int) + 1)) rfl rfl ?_
  refine wpo_nil ?_
  refine thn_n ?_
  exact ⟨xs.length - (k + 1), by omega, (k + 1), rfl, (by omega), rfl, e110, e111, e112, hb130, (by have kk := hS129.blk; rw [fill_set hx117] at kk; exact kk)⟩
 ·
  have h131 := of_decide_eq_false h114
  refine wpf_exit ?_
  refine thn_e ?_
  refine thn_e ?_
  refine blk_e ?_
  refine thn_n ?_
  refine wpf_seq_region ?_
  refine wpo_move (v := .slice (some ⟨B101, 0, none⟩) xs.length xs.length) e112 rfl ?_
  refine wpo_assign (v := .slice (some ⟨B101, 0, none⟩) xs.length xs.length) rfl rfl ?_
  refine wpo_nil ?_
  refine wpf_ret ?_
  refine ⟨.slice (some ⟨B101, 0, none⟩) xs.length xs.length, res1 rfl rfl, B101, rfl, hlB101, ?_, hb107⟩
  have kk := k113
  rw [fill_all (by omega)] at kk
  exact kk
theorem eqRight_c (a b : Rt) (w : World) : CallsR Try.prog 58 #[.agg #[.int .i64 a.th, .int .i64 a.ve, .bool a.rd, .bool a.wr, .bool a.wk], .agg #[.int .i64 b.th, .int .i64 b.ve, .bool b.rd, .bool b.wr, .bool b.wk]] w (fun v w' => v = .bool (decide (a = b)) ∧ w.grownBy w' none) := by
 refine calls_of_wpf (n := 30) Try.func58 rfl Try.ntmps58 rfl ?_
 have hb0 := World.grownBy.refl w none
 refine wpf_seq_region ?_
 refine wpo_box (v := .agg #[.int .i64 a.th, .int .i64 a.ve, .bool a.rd, .bool a.wr, .bool a.wk]) (cs := #[.int .i64 a.th, .int .i64 a.ve, .bool a.rd, .bool a.wr, .bool a.wk]) rfl rfl rfl ?_
 intro B101 w102 hN103
 have hlB101 := hN_ge hN103 hb0
 have hb104 := low0 hb0 hN103.grw
 refine wpo_box (v := .agg #[.int .i64 b.th, .int .i64 b.ve, .bool b.rd, .bool b.wr, .bool b.wk]) (cs := #[.int .i64 b.th, .int .i64 b.ve, .bool b.rd, .bool b.wr, .bool b.wk]) rfl rfl rfl ?_
 intro B105 w106 hN107
 have hlB105 := hN_ge hN107 hb104
 have lt_B101_B105 := hN_gtl hN107 (hN103.blk).lt
 have hb108 := low0 hb104 hN107.grw
 refine wpo_assign (v := .bool false) rfl rfl ?_
 refine wpo_nil ?_
 refine wpf_seq ?_
 refine wpf_seq_region ?_
 refine wpo_fieldAddr (o' := 0) fo_29_0 rfl rfl rfl ?_
 have k109 := (hN103.blk.grown0 hN107.grw)
 refine wpo_load1 (v := .int .i64 a.th) ot_3 rfl (k109.cell rfl) rfl ?_
 refine wpo_fieldAddr (o' := 0) fo_29_0 rfl rfl rfl ?_
 refine wpo_load1 (v := .int .i64 b.th) ot_3 rfl (hN107.blk.cell rfl) rfl ?_
 refine wpo_neq (q := !(decide (a.th = b.th))) rfl rfl rfl rfl ?_
 refine wpo_nil ?_
 refine wpf_cond rfl (fun h110 => ?_) (fun h110 => ?_)
 ·
  have h111 := nt_t h110
  have h112 := of_decide_eq_false h111
  refine wpf_seq_region ?_
  refine wpo_assign (v := .bool false) rfl rfl ?_
  refine wpo_nil ?_
  refine wpf_ret ?_
  refine thn_r ?_
  refine ⟨.bool false, res1 rfl rfl, ?_, hb108⟩
  obtain ⟨a1, a2, a3, a4, a5⟩ := a
  obtain ⟨b1, b2, b3, b4, b5⟩ := b
  simp_all
 ·
  have h113 := nt_f h110
  have h114 := of_decide_eq_true h113
  refine wpf_skip ?_
  refine thn_n ?_
  refine wpf_seq ?_
  refine wpf_seq_region ?_
  refine wpo_fieldAddr (o' := 1) fo_29_1 rfl rfl rfl ?_
  refine wpo_load1 (v := .int .i64 a.ve) ot_3 rfl (k109.cell rfl) rfl ?_
  refine wpo_fieldAddr (o' := 1) fo_29_1 rfl rfl rfl ?_
  refine wpo_load1 (v := .int .i64 b.ve) ot_3 rfl (hN107.blk.cell rfl) rfl ?_
  refine wpo_neq (q := !(decide (a.ve = b.ve))) rfl rfl rfl rfl ?_
  refine wpo_nil ?_
  refine wpf_cond rfl (fun h115 => ?_) (fun h115 => ?_)
  ·
   have h116 := nt_t h115
   have h117 := of_decide_eq_false h116
   refine wpf_seq_region ?_
   refine wpo_assign (v := .bool false) rfl rfl ?_
   refine wpo_nil ?_
   refine wpf_ret ?_
   refine thn_r ?_
   refine ⟨.bool false, res1 rfl rfl, ?_, hb108⟩
   obtain ⟨a1, a2, a3, a4, a5⟩ := a
   obtain ⟨b1, b2, b3, b4, b5⟩ := b
   simp_all
  ·
   have h118 := nt_f h115
   have h119 := of_decide_eq_true h118
   refine wpf_skip ?_
   refine thn_n ?_
   refine wpf_seq ?_
   refine wpf_seq_region ?_
   refine wpo_fieldAddr (o' := 2) fo_29_2 rfl rfl rfl ?_
   refine wpo_load1 (v := .bool a.rd) ot_4 rfl (k109.cell rfl) rfl ?_
   refine wpo_fieldAddr (o' := 2) fo_29_2 rfl rfl rfl ?_
   refine wpo_load1 (v := .bool b.rd) ot_4 rfl (hN107.blk.cell rfl) rfl ?_
   refine wpo_neqb (q := !(decide (a.rd = b.rd))) (by kernel_rfl) rfl rfl rfl rfl ?_
   refine wpo_nil ?_
   refine wpf_cond rfl (fun h120 => ?_) (fun h120 => ?_)
   ·
    have h121 := nt_t h120
    have h122 := of_decide_eq_false h121
    refine wpf_seq_region ?_
    refine wpo_assign (v := .bool false) rfl rfl ?_
    refine wpo_nil ?_
    refine wpf_ret ?_
    refine thn_r ?_
    refine ⟨.bool false, res1 rfl rfl, ?_, hb108⟩
    obtain ⟨a1, a2, a3, a4, a5⟩ := a
    obtain ⟨b1, b2, b3, b4, b5⟩ := b
    simp_all
   ·
    have h123 := nt_f h120
    have h124 := of_decide_eq_true h123
    refine wpf_skip ?_
    refine thn_n ?_
    refine wpf_seq ?_
    refine wpf_seq_region ?_
    refine wpo_fieldAddr (o' := 3) fo_29_3 rfl rfl rfl ?_
    refine wpo_load1 (v := .bool a.wr) ot_4 rfl (k109.cell rfl) rfl ?_
    refine wpo_fieldAddr (o' := 3) fo_29_3 rfl rfl rfl ?_
    refine wpo_load1 (v := .bool b.wr) ot_4 rfl (hN107.blk.cell rfl) rfl ?_
    refine wpo_neqb (q := !(decide (a.wr = b.wr))) (by kernel_rfl) rfl rfl rfl rfl ?_
    refine wpo_nil ?_
    refine wpf_cond rfl (fun h125 => ?_) (fun h125 => ?_)
    ·
     have h126 := nt_t h125
     have h127 := of_decide_eq_false h126
     refine wpf_seq_region ?_
     refine wpo_assign (v := .bool false) rfl rfl ?_
     refine wpo_nil ?_
     refine wpf_ret ?_
     refine thn_r ?_
     refine ⟨.bool false, res1 rfl rfl, ?_, hb108⟩
     obtain ⟨a1, a2, a3, a4, a5⟩ := a
     obtain ⟨b1, b2, b3, b4, b5⟩ := b
     simp_all
    ·
     have h128 := nt_f h125
     have h129 := of_decide_eq_true h128
     refine wpf_skip ?_
     refine thn_n ?_
     refine wpf_seq ?_
     refine wpf_seq_region ?_
     refine wpo_fieldAddr (o' := 4) fo_29_4 rfl rfl rfl ?_
     refine wpo_load1 (v := .bool a.wk) ot_4 rfl (k109.cell rfl) rfl ?_
     refine wpo_fieldAddr (o' := 4) fo_29_4 rfl rfl rfl ?_
     refine wpo_load1 (v := .bool b.wk) ot_4 rfl (hN107.blk.cell rfl) rfl ?_
     refine wpo_neqb (q := !(decide (a.wk = b.wk))) (by kernel_rfl) rfl rfl rfl rfl ?_
     refine wpo_nil ?_
     refine wpf_cond rfl (fun h130 => ?_) (fun h130 => ?_)
     ·
      have h131 := nt_t h130
      have h132 := of_decide_eq_false h131
      refine wpf_seq_region ?_
      refine wpo_assign (v := .bool false) rfl rfl ?_
      refine wpo_nil ?_
      refine wpf_ret ?_
      refine thn_r ?_
      refine ⟨.bool false, res1 rfl rfl, ?_, hb108⟩
      obtain ⟨a1, a2, a3, a4, a5⟩ := a
      obtain ⟨b1, b2, b3, b4, b5⟩ := b
      simp_all
     ·
      have h133 := nt_f h130
      have h134 := of_decide_eq_true h133
      refine wpf_skip ?_
      refine thn_n ?_
      refine wpf_seq_region ?_
      refine wpo_assign (v := .bool true) rfl rfl ?_
      refine wpo_nil ?_
      refine wpf_ret ?_
      refine ⟨.bool true, res1 rfl rfl, ?_, hb108⟩
      obtain ⟨a1, a2, a3, a4, a5⟩ := a
      obtain ⟨b1, b2, b3, b4, b5⟩ := b
      simp_all
theorem eqRightS_c (w : World) (xs ys : List Rt) (a b : Option Addr) (c e : Nat) (hs : SlAt w a 5 (xs.map Rt.cells)) (ht : SlAt w b 5 (ys.map Rt.cells)) (hn : xs.length ≤ 1048576) (hm : ys.length ≤ 1048576) : CallsR Try.prog 18 #[.slice a xs.length c, .slice b ys.length e] w (fun v w' => v = .bool (decide (xs = ys)) ∧ w.grownBy w' none) := by
 refine calls_of_wpf (n := 27) Try.func18 rfl Try.ntmps18 rfl ?_
 have hb0 := World.grownBy.refl w none
 refine wpf_seq_region ?_
 refine wpo_assign (v := .bool false) rfl rfl ?_
 refine wpo_nil ?_
 refine wpf_seq ?_
 refine wpf_seq_region ?_
 refine wpo_move (v := .slice a xs.length c) rfl rfl ?_
 refine wpo_len (by kernel_rfl) rfl rfl ?_
 refine wpo_move (v := .slice b ys.length e) rfl rfl ?_
 refine wpo_len (by kernel_rfl) rfl rfl ?_
 refine wpo_neq (q := !(decide ((xs.length : Int) = (ys.length : Int)))) rfl rfl rfl rfl ?_
 refine wpo_nil ?_
 refine wpf_cond rfl (fun h101 => ?_) (fun h101 => ?_)
 ·
  have h102 := nt_t h101
  have h103 := of_decide_eq_false h102
  refine wpf_seq_region ?_
  refine wpo_assign (v := .bool false) rfl rfl ?_
  refine wpo_nil ?_
  refine wpf_ret ?_
  refine thn_r ?_
  refine ⟨.bool false, res1 rfl rfl, ?_, hb0⟩
  exact congrArg Value.bool (decide_eq_false (fun h => by have := congrArg List.length h; omega)).symm
 ·
  have h104 := nt_f h101
  have h105 := of_decide_eq_true h104
  refine wpf_skip ?_
  refine thn_n ?_
  refine wpf_seq ?_
  refine wpf_seq_region ?_
  refine wpo_assign (v := .int .i64 0) rfl rfl ?_
  refine wpo_nil ?_
  refine wpf_block ?_
  refine wpf_loopN (fun mm f' w' => ∃ (k : Nat), mm = xs.length - k ∧ k ≤ xs.length ∧ xs.take k = ys.take k ∧ f' 5 = .int .i64 (k : Int) ∧ f' 0 = .slice a xs.length c ∧ f' 1 = .slice b ys.length e ∧ w.grownBy w' none) (xs.length - 0) ⟨0, rfl, (Nat.zero_le _), rfl, rfl, rfl, rfl, hb0⟩ ?_
  rintro mm f106 w107 ⟨k, hm109, hk, ha, e110, e111, e112, hb108⟩
  refine wpf_seq ?_
  refine wpf_seq_region ?_
  refine wpo_move (v := .int .i64 (k : Int)) e110 rfl ?_
  refine wpo_move (v := .slice a xs.length c) e111 rfl ?_
  refine wpo_len (by kernel_rfl) rfl rfl ?_
  refine wpo_lss (q := decide ((k : Int) < (xs.length : Int))) rfl rfl rfl rfl ?_
  refine wpo_nil ?_
  refine wpf_cond rfl (fun h113 => ?_) (fun h113 => ?_)
  ·
   have h114 := of_decide_eq_true h113
   refine wpf_skip ?_
   refine thn_n ?_
   refine wpf_seq ?_
   refine wpf_block ?_
   refine wpf_seq ?_
   obtain ⟨x153, hx154⟩ := get_lt (l := xs) (i := k) (by omega)
   obtain ⟨b155, q156, o157, ha158, ho159, hr160⟩ := SlAt.at hs (map_get hx154)
   obtain ⟨x161, hx162⟩ := get_lt (l := ys) (i := k) (by omega)
   obtain ⟨b163, q164, o165, ha166, ho167, hr168⟩ := SlAt.at ht (map_get hx162)
   refine wpf_draw (m := 8) (vals := [(17, .slice a xs.length c), (18, .int .i64 (k : Int)), (19, .pointer (some ⟨b155, o157, none⟩)), (20, .agg #[.int .i64 x153.th, .int .i64 x153.ve, .bool x153.rd, .bool x153.wr, .bool x153.wk]), (21, .slice b ys.length e), (22, .int .i64 (k : Int)), (23, .pointer (some ⟨b163, o165, none⟩)), (24, .agg #[.int .i64 x161.th, .int .i64 x161.ve, .bool x161.rd, .bool x161.wr, .bool x161.wk])]) (fun w' => w107.grownBy w' none) mixed_ (by kernel_rfl) (grown_drew _) ?_ ?_
   ·
    refine yll_cons rfl (fun w172 hi173 => ?_) ?_
    ·
     have hb174 := low0 hb108 hi173
     refine wpo_move (v := .slice a xs.length c) e111 rfl ?_
     exact wpo_nil ⟨rfl, hi173⟩
    refine yll_cons rfl (fun w175 hi176 => ?_) ?_
    ·
     have hb177 := low0 hb108 hi176
     refine wpo_move (v := .int .i64 (k : Int)) e110 rfl ?_
     exact wpo_nil ⟨rfl, hi176⟩
    refine yll_cons rfl (fun w178 hi179 => ?_) ?_
    ·
     have hb180 := low0 hb108 hi179
     refine wpo_indexE es_27 rfl rfl ha158 ho159 (by omega) (by omega) rfl ?_
     exact wpo_nil ⟨rfl, hi179⟩
    refine yll_cons rfl (fun w181 hi182 => ?_) ?_
    ·
     have hb183 := low0 hb108 hi182
     refine wpo_loadn (vs := [.int .i64 x153.th, .int .i64 x153.ve, .bool x153.rd, .bool x153.wr, .bool x153.wk]) rt_29 rfl rfl (range_sub (range_low hr160 hb183) 0 5 rfl) rfl ?_
     exact wpo_nil ⟨rfl, hi182⟩
    refine yll_cons rfl (fun w184 hi185 => ?_) ?_
    ·
     have hb186 := low0 hb108 hi185
     refine wpo_move (v := .slice b ys.length e) e112 rfl ?_
     exact wpo_nil ⟨rfl, hi185⟩
    refine yll_cons rfl (fun w187 hi188 => ?_) ?_
    ·
     have hb189 := low0 hb108 hi188
     refine wpo_move (v := .int .i64 (k : Int)) e110 rfl ?_
     exact wpo_nil ⟨rfl, hi188⟩
    refine yll_cons rfl (fun w190 hi191 => ?_) ?_
    ·
     have hb192 := low0 hb108 hi191
     refine wpo_indexE es_27 rfl rfl ha166 ho167 (by omega) (by omega) rfl ?_
     exact wpo_nil ⟨rfl, hi191⟩
    refine yll_cons rfl (fun w193 hi194 => ?_) ?_
    ·
     have hb195 := low0 hb108 hi194
     refine wpo_loadn (vs := [.int .i64 x161.th, .int .i64 x161.ve, .bool x161.rd, .bool x161.wr, .bool x161.wk]) rt_29 rfl rfl (range_sub (range_low hr168 hb195) 0 5 rfl) rfl ?_
     exact wpo_nil ⟨rfl, hi194⟩
    exact yll_nil
   ·
    intro w196 hi197
    have hb198 := low0 hb108 hi197
    refine wpo_call (vs := [.agg #[.int .i64 x153.th, .int .i64 x153.ve, .bool x153.rd, .bool x153.wr, .bool x153.wk], .agg #[.int .i64 x161.th, .int .i64 x161.ve, .bool x161.rd, .bool x161.wr, .bool x161.wk]]) gf_58 (args_cons rfl (args_cons rfl args_nil)) rfl (eqRight_c x153 x161 _) ?_
    rintro _ w199 ⟨rfl, hg200⟩
    have hb201 := low0 hb198 hg200
    refine wpo_not (b' := !(decide (x153 = x161))) rfl rfl rfl ?_
    refine wpo_nil ?_
    refine thn_n ?_
    refine wpf_cond rfl (fun h202 => ?_) (fun h202 => ?_)
    ·
     have h203 := nt_t h202
     have h204 := of_decide_eq_false h203
     refine wpf_seq_region ?_
     refine wpo_assign (v := .bool false) rfl rfl ?_
     refine wpo_nil ?_
     refine wpf_ret ?_
     refine blk_r ?_
     refine thn_r ?_
     refine thn_r ?_
     refine blk_r ?_
     refine thn_r ?_
     refine ⟨.bool false, res1 rfl rfl, ?_, hb201⟩
     exact congrArg Value.bool (decide_eq_false (ne_of_at hx154 hx162 (of_decide_eq_false h203))).symm
    ·
     have h205 := nt_f h202
     have h206 := of_decide_eq_true h205
     refine wpf_skip ?_
     refine blk_n ?_
     refine thn_n ?_
     refine wpf_region ?_
     refine wpo_move (v := .int .i64 (k : Int)) e110 rfl ?_
     refine wpo_add (c := (k : Int) + 1) rfl rfl (by omega) (by omega) (by omega) rfl ?_
     refine wpo_assign (v := .int .i64 ((k : Int) + 1)) rfl rfl ?_
     refine wpo_nil ?_
     refine thn_n ?_
     exact ⟨xs.length - (k + 1), by omega, (k + 1), rfl, (by omega), (take_eq_succ ha hx154 hx162 (of_decide_eq_true h205)), rfl, e111, e112, hb201⟩
  ·
   have h207 := of_decide_eq_false h113
   refine wpf_exit ?_
   refine thn_e ?_
   refine thn_e ?_
   refine blk_e ?_
   refine thn_n ?_
   refine wpf_seq_region ?_
   refine wpo_assign (v := .bool true) rfl rfl ?_
   refine wpo_nil ?_
   refine wpf_ret ?_
   refine ⟨.bool true, res1 rfl rfl, ?_, hb108⟩
   exact congrArg Value.bool (decide_eq_true (eq_of_take ha (by omega) (by omega))).symm
theorem es_43 : elemSz Try.prog 43 = some 1 := by kernel_rfl
theorem at_96 : arrTy Try.prog 96 = some (4, 29, 5) := by kernel_rfl
theorem fo_45_0 : fieldOff Try.prog 45 0 = some 0 := by kernel_rfl
theorem fo_45_1 : fieldOff Try.prog 45 1 = some 1 := by kernel_rfl
theorem fo_45_2 : fieldOff Try.prog 45 2 = some 3 := by kernel_rfl
theorem fo_45_3 : fieldOff Try.prog 45 3 = some 4 := by kernel_rfl
theorem fo_45_4 : fieldOff Try.prog 45 4 = some 5 := by kernel_rfl
theorem fo_45_5 : fieldOff Try.prog 45 5 = some 6 := by kernel_rfl
theorem fo_45_6 : fieldOff Try.prog 45 6 = some 7 := by kernel_rfl
theorem gf_35 : goFn Try.prog 35 = true := by kernel_rfl
theorem gf_66 : goFn Try.prog 66 = true := by kernel_rfl
theorem gf_69 : goFn Try.prog 69 = true := by kernel_rfl
theorem gf_71 : goFn Try.prog 71 = true := by kernel_rfl
theorem gf_72 : goFn Try.prog 72 = true := by kernel_rfl
theorem gf_73 : goFn Try.prog 73 = true := by kernel_rfl
theorem gf_74 : goFn Try.prog 74 = true := by kernel_rfl
theorem gf_75 : goFn Try.prog 75 = true := by kernel_rfl
theorem ot_27 : oneTy Try.prog 27 = true := by kernel_rfl
theorem ot_43 : oneTy Try.prog 43 = true := by kernel_rfl
theorem rt_45 : rowTy Try.prog 45 = some 8 := by kernel_rfl
theorem rt_96 : rowTy Try.prog 96 = some 20 := by kernel_rfl
theorem versOk_c (m : MTh) (w : World) : CallsR Try.prog 71 #[.agg #[.int .i64 m.t.kind, .int .i64 m.t.lab.s, .int .i64 m.t.lab.v, .int .i64 m.t.ve, .int .i64 m.t.num, .slice m.sa m.t.slots.length m.sc, .slice m.qa m.t.queue.length m.qc, .int .i64 m.t.to]] w (fun v w' => v = .bool (versOk m.t) ∧ w.grownBy w' none) := by
 refine calls_of_wpf (n := 15) Try.func71 rfl Try.ntmps71 rfl ?_
 have hb0 := World.grownBy.refl w none
 refine wpf_seq_region ?_
 refine wpo_box (v := .agg #[.int .i64 m.t.kind, .int .i64 m.t.lab.s, .int .i64 m.t.lab.v, .int .i64 m.t.ve, .int .i64 m.t.num, .slice m.sa m.t.slots.length m.sc, .slice m.qa m.t.queue.length m.qc, .int .i64 m.t.to]) (cs := #[.int .i64 m.t.kind, .int .i64 m.t.lab.s, .int .i64 m.t.lab.v, .int .i64 m.t.ve, .int .i64 m.t.num, .slice m.sa m.t.slots.length m.sc, .slice m.qa m.t.queue.length m.qc, .int .i64 m.t.to]) rfl rfl rfl ?_
 intro B101 w102 hN103
 have hlB101 := hN_ge hN103 hb0
 have hb104 := low0 hb0 hN103.grw
 refine wpo_assign (v := .bool false) rfl rfl ?_
 refine wpo_nil ?_
 refine wpf_seq ?_
 refine wpf_seq_region ?_
 refine wpo_fieldAddr (o' := 0) fo_45_0 rfl rfl rfl ?_
 refine wpo_load1 (v := .int .i64 m.t.kind) ot_3 rfl (hN103.blk.cell rfl) rfl ?_
 refine wpo_nil ?_
 refine wpf_block ?_
 refine wpf_seq ?_
 refine wpf_seq_region ?_
 refine wpo_eql (q := decide (m.t.kind = 1)) rfl rfl rfl rfl ?_
 refine wpo_assign (v := .bool (decide (m.t.kind = 1))) rfl rfl ?_
 refine wpo_nil ?_
 refine wpf_cond rfl (fun h105 => ?_) (fun h105 => ?_)
 ·
  have h106 := of_decide_eq_true h105
  refine wpf_skip ?_
  refine thn_n ?_
  refine wpf_condt rfl h105 ?_
  refine wpf_seq_region ?_
  refine wpo_fieldAddr (o' := 3) fo_45_2 rfl rfl rfl ?_
  refine wpo_load1 (v := .int .i64 m.t.ve) ot_3 rfl (hN103.blk.cell rfl) rfl ?_
  refine wpo_call (vs := [.int .i64 m.t.ve, .int .i64 0, .int .i64 5]) gf_69 (args_cons rfl (args_cons rfl (args_cons rfl args_nil))) rfl (inRange_c m.t.ve 0 5 _) ?_
  rintro _ w107 ⟨rfl, hg108⟩
  have hb109 := low0 hb104 hg108
  refine wpo_assign (v := .bool (inR m.t.ve 0 5)) rfl rfl ?_
  refine wpo_nil ?_
  refine wpf_ret ?_
  refine blk_r ?_
  refine thn_r ?_
  refine ⟨.bool (inR m.t.ve 0 5), res1 rfl rfl, ?_, hb109⟩
  first | (simp [versOk, h106]; done) | (simp [versOk, h106]; omega) | (simp [versOk, h106]; intros; omega)
 ·
  have h110 := of_decide_eq_false h105
  refine wpf_seq_region ?_
  refine wpo_eql (q := decide (m.t.kind = 2)) rfl rfl rfl rfl ?_
  refine wpo_assign (v := .bool (decide (m.t.kind = 2))) rfl rfl ?_
  refine wpo_nil ?_
  refine wpf_cond rfl (fun h111 => ?_) (fun h111 => ?_)
  ·
   have h112 := of_decide_eq_true h111
   refine wpf_skip ?_
   refine thn_n ?_
   refine wpf_condt rfl h111 ?_
   refine wpf_seq_region ?_
   refine wpo_fieldAddr (o' := 3) fo_45_2 rfl rfl rfl ?_
   refine wpo_load1 (v := .int .i64 m.t.ve) ot_3 rfl (hN103.blk.cell rfl) rfl ?_
   refine wpo_call (vs := [.int .i64 m.t.ve, .int .i64 0, .int .i64 5]) gf_69 (args_cons rfl (args_cons rfl (args_cons rfl args_nil))) rfl (inRange_c m.t.ve 0 5 _) ?_
   rintro _ w113 ⟨rfl, hg114⟩
   have hb115 := low0 hb104 hg114
   refine wpo_assign (v := .bool (inR m.t.ve 0 5)) rfl rfl ?_
   refine wpo_nil ?_
   refine wpf_ret ?_
   refine blk_r ?_
   refine thn_r ?_
   refine ⟨.bool (inR m.t.ve 0 5), res1 rfl rfl, ?_, hb115⟩
   first | (simp [versOk, h110, h112]; done) | (simp [versOk, h110, h112]; omega) | (simp [versOk, h110, h112]; intros; omega)
  ·
   have h116 := of_decide_eq_false h111
   refine wpf_region ?_
   refine wpo_eql (q := decide (m.t.kind = 4)) rfl rfl rfl rfl ?_
   refine wpo_assign (v := .bool (decide (m.t.kind = 4))) rfl rfl ?_
   refine wpo_nil ?_
   refine thn_n ?_
   refine wpf_cond rfl (fun h117 => ?_) (fun h117 => ?_)
   ·
    have h118 := of_decide_eq_true h117
    refine wpf_seq_region ?_
    refine wpo_fieldAddr (o' := 3) fo_45_2 rfl rfl rfl ?_
    refine wpo_load1 (v := .int .i64 m.t.ve) ot_3 rfl (hN103.blk.cell rfl) rfl ?_
    refine wpo_call (vs := [.int .i64 m.t.ve, .int .i64 0, .int .i64 5]) gf_69 (args_cons rfl (args_cons rfl (args_cons rfl args_nil))) rfl (inRange_c m.t.ve 0 5 _) ?_
    rintro _ w119 ⟨rfl, hg120⟩
    have hb121 := low0 hb104 hg120
    refine wpo_assign (v := .bool (inR m.t.ve 0 5)) rfl rfl ?_
    refine wpo_nil ?_
    refine wpf_ret ?_
    refine blk_r ?_
    refine thn_r ?_
    refine ⟨.bool (inR m.t.ve 0 5), res1 rfl rfl, ?_, hb121⟩
    first | (simp [versOk, h110, h116, h118]; done) | (simp [versOk, h110, h116, h118]; omega) | (simp [versOk, h110, h116, h118]; intros; omega)
   ·
    have h122 := of_decide_eq_false h117
    refine wpf_skip ?_
    refine blk_n ?_
    refine thn_n ?_
    refine wpf_seq_region ?_
    refine wpo_fieldAddr (o' := 3) fo_45_2 rfl rfl rfl ?_
    refine wpo_load1 (v := .int .i64 m.t.ve) ot_3 rfl (hN103.blk.cell rfl) rfl ?_
    refine wpo_eql (q := decide (m.t.ve = 0)) rfl rfl rfl rfl ?_
    refine wpo_assign (v := .bool (decide (m.t.ve = 0))) rfl rfl ?_
    refine wpo_nil ?_
    refine wpf_ret ?_
    refine ⟨.bool (decide (m.t.ve = 0)), res1 rfl rfl, ?_, hb104⟩
    first | (simp [versOk, h110, h116, h122]; done) | (simp [versOk, h110, h116, h122]; omega) | (simp [versOk, h110, h116, h122]; intros; omega)
theorem numOk_c (m : MTh) (w : World) : CallsR Try.prog 72 #[.agg #[.int .i64 m.t.kind, .int .i64 m.t.lab.s, .int .i64 m.t.lab.v, .int .i64 m.t.ve, .int .i64 m.t.num, .slice m.sa m.t.slots.length m.sc, .slice m.qa m.t.queue.length m.qc, .int .i64 m.t.to]] w (fun v w' => v = .bool (numOk m.t) ∧ w.grownBy w' none) := by
 refine calls_of_wpf (n := 19) Try.func72 rfl Try.ntmps72 rfl ?_
 have hb0 := World.grownBy.refl w none
 refine wpf_seq_region ?_
 refine wpo_box (v := .agg #[.int .i64 m.t.kind, .int .i64 m.t.lab.s, .int .i64 m.t.lab.v, .int .i64 m.t.ve, .int .i64 m.t.num, .slice m.sa m.t.slots.length m.sc, .slice m.qa m.t.queue.length m.qc, .int .i64 m.t.to]) (cs := #[.int .i64 m.t.kind, .int .i64 m.t.lab.s, .int .i64 m.t.lab.v, .int .i64 m.t.ve, .int .i64 m.t.num, .slice m.sa m.t.slots.length m.sc, .slice m.qa m.t.queue.length m.qc, .int .i64 m.t.to]) rfl rfl rfl ?_
 intro B101 w102 hN103
 have hlB101 := hN_ge hN103 hb0
 have hb104 := low0 hb0 hN103.grw
 refine wpo_assign (v := .bool false) rfl rfl ?_
 refine wpo_nil ?_
 refine wpf_seq ?_
 refine wpf_seq_region ?_
 refine wpo_fieldAddr (o' := 0) fo_45_0 rfl rfl rfl ?_
 refine wpo_load1 (v := .int .i64 m.t.kind) ot_3 rfl (hN103.blk.cell rfl) rfl ?_
 refine wpo_nil ?_
 refine wpf_block ?_
 refine wpf_seq ?_
 refine wpf_seq_region ?_
 refine wpo_eql (q := decide (m.t.kind = 1)) rfl rfl rfl rfl ?_
 refine wpo_assign (v := .bool (decide (m.t.kind = 1))) rfl rfl ?_
 refine wpo_nil ?_
 refine wpf_cond rfl (fun h105 => ?_) (fun h105 => ?_)
 ·
  have h106 := of_decide_eq_true h105
  refine wpf_skip ?_
  refine thn_n ?_
  refine wpf_condt rfl h105 ?_
  refine wpf_seq_region ?_
  refine wpo_fieldAddr (o' := 4) fo_45_3 rfl rfl rfl ?_
  refine wpo_load1 (v := .int .i64 m.t.num) ot_3 rfl (hN103.blk.cell rfl) rfl ?_
  refine wpo_call (vs := [.int .i64 m.t.num, .int .i64 0, .int .i64 99]) gf_69 (args_cons rfl (args_cons rfl (args_cons rfl args_nil))) rfl (inRange_c m.t.num 0 99 _) ?_
  rintro _ w107 ⟨rfl, hg108⟩
  have hb109 := low0 hb104 hg108
  refine wpo_assign (v := .bool (inR m.t.num 0 99)) rfl rfl ?_
  refine wpo_nil ?_
  refine wpf_ret ?_
  refine blk_r ?_
  refine thn_r ?_
  refine ⟨.bool (inR m.t.num 0 99), res1 rfl rfl, ?_, hb109⟩
  first | (simp [numOk, h106]; done) | (simp [numOk, h106]; omega) | (simp [numOk, h106]; intros; omega)
 ·
  have h110 := of_decide_eq_false h105
  refine wpf_region ?_
  refine wpo_eql (q := decide (m.t.kind = 5)) rfl rfl rfl rfl ?_
  refine wpo_assign (v := .bool (decide (m.t.kind = 5))) rfl rfl ?_
  refine wpo_nil ?_
  refine thn_n ?_
  refine wpf_cond rfl (fun h111 => ?_) (fun h111 => ?_)
  ·
   have h112 := of_decide_eq_true h111
   refine wpf_seq_region ?_
   refine wpo_fieldAddr (o' := 4) fo_45_3 rfl rfl rfl ?_
   refine wpo_load1 (v := .int .i64 m.t.num) ot_3 rfl (hN103.blk.cell rfl) rfl ?_
   refine wpo_call (vs := [.int .i64 m.t.num, .int .i64 0, .int .i64 99]) gf_69 (args_cons rfl (args_cons rfl (args_cons rfl args_nil))) rfl (inRange_c m.t.num 0 99 _) ?_
   rintro _ w113 ⟨rfl, hg114⟩
   have hb115 := low0 hb104 hg114
   refine wpo_assign (v := .bool (inR m.t.num 0 99)) rfl rfl ?_
   refine wpo_nil ?_
   refine wpf_ret ?_
   refine blk_r ?_
   refine thn_r ?_
   refine ⟨.bool (inR m.t.num 0 99), res1 rfl rfl, ?_, hb115⟩
   first | (simp [numOk, h110, h112]; done) | (simp [numOk, h110, h112]; omega) | (simp [numOk, h110, h112]; intros; omega)
  ·
   have h116 := of_decide_eq_false h111
   refine wpf_seq_region ?_
   refine wpo_eql (q := decide (m.t.kind = 3)) rfl rfl rfl rfl ?_
   refine wpo_assign (v := .bool (decide (m.t.kind = 3))) rfl rfl ?_
   refine wpo_nil ?_
   refine wpf_cond rfl (fun h117 => ?_) (fun h117 => ?_)
   ·
    have h118 := of_decide_eq_true h117
    refine wpf_seq_region ?_
    refine wpo_fieldAddr (o' := 4) fo_45_3 rfl rfl rfl ?_
    refine wpo_load1 (v := .int .i64 m.t.num) ot_3 rfl (hN103.blk.cell rfl) rfl ?_
    refine wpo_call (vs := [.int .i64 m.t.num, .int .i64 (-4), .int .i64 99]) gf_69 (args_cons rfl (args_cons rfl (args_cons rfl args_nil))) rfl (inRange_c m.t.num (-4) 99 _) ?_
    rintro _ w119 ⟨rfl, hg120⟩
    have hb121 := low0 hb104 hg120
    refine wpo_assign (v := .bool (inR m.t.num (-4) 99)) rfl rfl ?_
    refine wpo_nil ?_
    refine wpf_ret ?_
    refine blk_r ?_
    refine thn_r ?_
    refine ⟨.bool (inR m.t.num (-4) 99), res1 rfl rfl, ?_, hb121⟩
    first | (simp [numOk, h110, h116, h118]; done) | (simp [numOk, h110, h116, h118]; omega) | (simp [numOk, h110, h116, h118]; intros; omega)
   ·
    have h122 := of_decide_eq_false h117
    refine wpf_skip ?_
    refine blk_n ?_
    refine thn_n ?_
    refine wpf_seq_region ?_
    refine wpo_fieldAddr (o' := 4) fo_45_3 rfl rfl rfl ?_
    refine wpo_load1 (v := .int .i64 m.t.num) ot_3 rfl (hN103.blk.cell rfl) rfl ?_
    refine wpo_eql (q := decide (m.t.num = 0)) rfl rfl rfl rfl ?_
    refine wpo_assign (v := .bool (decide (m.t.num = 0))) rfl rfl ?_
    refine wpo_nil ?_
    refine wpf_ret ?_
    refine ⟨.bool (decide (m.t.num = 0)), res1 rfl rfl, ?_, hb104⟩
    first | (simp [numOk, h110, h116, h122]; done) | (simp [numOk, h110, h116, h122]; omega) | (simp [numOk, h110, h116, h122]; intros; omega)
theorem targetOk_c (m : MTh) (w : World) : CallsR Try.prog 75 #[.agg #[.int .i64 m.t.kind, .int .i64 m.t.lab.s, .int .i64 m.t.lab.v, .int .i64 m.t.ve, .int .i64 m.t.num, .slice m.sa m.t.slots.length m.sc, .slice m.qa m.t.queue.length m.qc, .int .i64 m.t.to]] w (fun v w' => v = .bool (targetOk m.t) ∧ w.grownBy w' none) := by
 refine calls_of_wpf (n := 12) Try.func75 rfl Try.ntmps75 rfl ?_
 have hb0 := World.grownBy.refl w none
 refine wpf_seq_region ?_
 refine wpo_box (v := .agg #[.int .i64 m.t.kind, .int .i64 m.t.lab.s, .int .i64 m.t.lab.v, .int .i64 m.t.ve, .int .i64 m.t.num, .slice m.sa m.t.slots.length m.sc, .slice m.qa m.t.queue.length m.qc, .int .i64 m.t.to]) (cs := #[.int .i64 m.t.kind, .int .i64 m.t.lab.s, .int .i64 m.t.lab.v, .int .i64 m.t.ve, .int .i64 m.t.num, .slice m.sa m.t.slots.length m.sc, .slice m.qa m.t.queue.length m.qc, .int .i64 m.t.to]) rfl rfl rfl ?_
 intro B101 w102 hN103
 have hlB101 := hN_ge hN103 hb0
 have hb104 := low0 hb0 hN103.grw
 refine wpo_assign (v := .bool false) rfl rfl ?_
 refine wpo_nil ?_
 refine wpf_seq ?_
 refine wpf_seq_region ?_
 refine wpo_fieldAddr (o' := 0) fo_45_0 rfl rfl rfl ?_
 refine wpo_load1 (v := .int .i64 m.t.kind) ot_3 rfl (hN103.blk.cell rfl) rfl ?_
 refine wpo_eql (q := decide (m.t.kind = 5)) rfl rfl rfl rfl ?_
 refine wpo_nil ?_
 refine wpf_cond rfl (fun h105 => ?_) (fun h105 => ?_)
 ·
  have h106 := of_decide_eq_true h105
  refine wpf_seq_region ?_
  refine wpo_fieldAddr (o' := 7) fo_45_6 rfl rfl rfl ?_
  refine wpo_load1 (v := .int .i64 m.t.to) ot_3 rfl (hN103.blk.cell rfl) rfl ?_
  refine wpo_call (vs := [.int .i64 m.t.to, .int .i64 1, .int .i64 8]) gf_69 (args_cons rfl (args_cons rfl (args_cons rfl args_nil))) rfl (inRange_c m.t.to 1 8 _) ?_
  rintro _ w107 ⟨rfl, hg108⟩
  have hb109 := low0 hb104 hg108
  refine wpo_assign (v := .bool (inR m.t.to 1 8)) rfl rfl ?_
  refine wpo_nil ?_
  refine wpf_ret ?_
  refine thn_r ?_
  refine ⟨.bool (inR m.t.to 1 8), res1 rfl rfl, ?_, hb109⟩
  first | (simp [targetOk, h106]; done) | (simp [targetOk, h106]; omega) | (simp [targetOk, h106]; intros; omega)
 ·
  have h110 := of_decide_eq_false h105
  refine wpf_skip ?_
  refine thn_n ?_
  refine wpf_seq_region ?_
  refine wpo_fieldAddr (o' := 7) fo_45_6 rfl rfl rfl ?_
  refine wpo_load1 (v := .int .i64 m.t.to) ot_3 rfl (hN103.blk.cell rfl) rfl ?_
  refine wpo_eql (q := decide (m.t.to = 0)) rfl rfl rfl rfl ?_
  refine wpo_assign (v := .bool (decide (m.t.to = 0))) rfl rfl ?_
  refine wpo_nil ?_
  refine wpf_ret ?_
  refine ⟨.bool (decide (m.t.to = 0)), res1 rfl rfl, ?_, hb104⟩
  first | (simp [targetOk, h110]; done) | (simp [targetOk, h110]; omega) | (simp [targetOk, h110]; intros; omega)
theorem queueOk_c (m : MTh) (w : World) (hs : SlAt w m.sa 5 (m.t.slots.map Rt.cells)) (hq : SlAt w m.qa 1 (m.t.queue.map icell)) (hsl : m.t.slots.length ≤ 9223372036854775806) (hql : m.t.queue.length ≤ 9223372036854775806) : CallsR Try.prog 74 #[.agg #[.int .i64 m.t.kind, .int .i64 m.t.lab.s, .int .i64 m.t.lab.v, .int .i64 m.t.ve, .int .i64 m.t.num, .slice m.sa m.t.slots.length m.sc, .slice m.qa m.t.queue.length m.qc, .int .i64 m.t.to]] w (fun v w' => v = .bool (queueOk m.t) ∧ w.grownBy w' none) := by
 refine calls_of_wpf (n := 27) Try.func74 rfl Try.ntmps74 rfl ?_
 have hb0 := World.grownBy.refl w none
 refine wpf_seq_region ?_
 refine wpo_box (v := .agg #[.int .i64 m.t.kind, .int .i64 m.t.lab.s, .int .i64 m.t.lab.v, .int .i64 m.t.ve, .int .i64 m.t.num, .slice m.sa m.t.slots.length m.sc, .slice m.qa m.t.queue.length m.qc, .int .i64 m.t.to]) (cs := #[.int .i64 m.t.kind, .int .i64 m.t.lab.s, .int .i64 m.t.lab.v, .int .i64 m.t.ve, .int .i64 m.t.num, .slice m.sa m.t.slots.length m.sc, .slice m.qa m.t.queue.length m.qc, .int .i64 m.t.to]) rfl rfl rfl ?_
 intro B101 w102 hN103
 have hlB101 := hN_ge hN103 hb0
 have hb104 := low0 hb0 hN103.grw
 refine wpo_assign (v := .bool false) rfl rfl ?_
 refine wpo_nil ?_
 refine wpf_seq ?_
 refine wpf_seq_region ?_
 refine wpo_fieldAddr (o' := 0) fo_45_0 rfl rfl rfl ?_
 refine wpo_load1 (v := .int .i64 m.t.kind) ot_3 rfl (hN103.blk.cell rfl) rfl ?_
 refine wpo_neq (q := !(decide (m.t.kind = 4))) rfl rfl rfl rfl ?_
 refine wpo_nil ?_
 refine wpf_cond rfl (fun h105 => ?_) (fun h105 => ?_)
 ·
  have h106 := nt_t h105
  have h107 := of_decide_eq_false h106
  refine wpf_seq_region ?_
  refine wpo_fieldAddr (o' := 6) fo_45_5 rfl rfl rfl ?_
  refine wpo_load1 (v := .slice m.qa m.t.queue.length m.qc) ot_43 rfl (hN103.blk.cell rfl) rfl ?_
  refine wpo_len (by kernel_rfl) rfl rfl ?_
  refine wpo_eql (q := decide ((m.t.queue.length : Int) = 0)) rfl rfl rfl rfl ?_
  refine wpo_assign (v := .bool (decide ((m.t.queue.length : Int) = 0))) rfl rfl ?_
  refine wpo_nil ?_
  refine wpf_ret ?_
  refine thn_r ?_
  refine ⟨.bool (decide ((m.t.queue.length : Int) = 0)), res1 rfl rfl, ?_, hb104⟩
  first | (simp [queueOk, h107]; done) | (simp [queueOk, h107]; omega) | (simp [queueOk, h107]; intros; omega)
 ·
  have h108 := nt_f h105
  have h109 := of_decide_eq_true h108
  refine wpf_skip ?_
  refine thn_n ?_
  refine wpf_seq ?_
  refine wpf_seq_region ?_
  refine wpo_fieldAddr (o' := 6) fo_45_5 rfl rfl rfl ?_
  refine wpo_load1 (v := .slice m.qa m.t.queue.length m.qc) ot_43 rfl (hN103.blk.cell rfl) rfl ?_
  refine wpo_len (by kernel_rfl) rfl rfl ?_
  refine wpo_gtr (q := decide (3 < (m.t.queue.length : Int))) rfl rfl rfl rfl ?_
  refine wpo_nil ?_
  refine wpf_cond rfl (fun h110 => ?_) (fun h110 => ?_)
  ·
   have h111 := of_decide_eq_true h110
   refine wpf_seq_region ?_
   refine wpo_assign (v := .bool false) rfl rfl ?_
   refine wpo_nil ?_
   refine wpf_ret ?_
   refine thn_r ?_
   refine ⟨.bool false, res1 rfl rfl, ?_, hb104⟩
   first | (simp [queueOk, h109, h111]; done) | (simp [queueOk, h109, h111]; omega) | (simp [queueOk, h109, h111]; intros; omega)
  ·
   have h112 := of_decide_eq_false h110
   refine wpf_skip ?_
   refine thn_n ?_
   refine wpf_seq ?_
   refine wpf_seq_region ?_
   refine wpo_fieldAddr (o' := 6) fo_45_5 rfl rfl rfl ?_
   refine wpo_load1 (v := .slice m.qa m.t.queue.length m.qc) ot_43 rfl (hN103.blk.cell rfl) rfl ?_
   refine wpo_len (by kernel_rfl) rfl rfl ?_
   refine wpo_move (v := .int .i64 0) rfl rfl ?_
   refine wpo_nil ?_
   refine wpf_block ?_
   refine wpf_loopN (fun mm f' w' => ∃ (k : Nat), mm = m.t.queue.length - k ∧ k ≤ m.t.queue.length ∧ ((m.t.queue.take k).all numQ) = true ∧ f' 19 = .int .i64 (k : Int) ∧ f' 17 = .slice m.qa m.t.queue.length m.qc ∧ f' 18 = .int .i64 (m.t.queue.length : Int) ∧ w.grownBy w' none) (m.t.queue.length - 0) ⟨0, rfl, (Nat.zero_le _), rfl, rfl, rfl, rfl, hb104⟩ ?_
   rintro mm f113 w114 ⟨k, hm116, hk, ha, e117, e118, e119, hb115⟩
   refine wpf_seq_region ?_
   refine wpo_lss (q := decide ((k : Int) < (m.t.queue.length : Int))) e117 e119 rfl rfl ?_
   refine wpo_nil ?_
   refine wpf_seq ?_
   refine wpf_cond rfl (fun h120 => ?_) (fun h120 => ?_)
   ·
    have h121 := of_decide_eq_true h120
    refine wpf_skip ?_
    refine thn_n ?_
    refine wpf_seq ?_
    refine wpf_block ?_
    refine wpf_seq_region ?_
    obtain ⟨x122, hx123⟩ := get_lt (l := m.t.queue) (i := k) (by omega)
    obtain ⟨b124, q125, o126, ha127, ho128, hr129⟩ := SlAt.at hq (map_get hx123)
    refine wpo_indexE es_43 e118 e117 ha127 ho128 (by omega) (by omega) rfl ?_
    refine wpo_load1 (v := .int .i64 x122) ot_3 rfl ((range_low hr129 hb115) 0 _ rfl) rfl ?_
    refine wpo_assign (v := .int .i64 x122) rfl rfl ?_
    refine wpo_nil ?_
    refine wpf_seq_region ?_
    refine wpo_move (v := .int .i64 x122) rfl rfl ?_
    refine wpo_call (vs := [.int .i64 x122, .int .i64 0, .int .i64 99]) gf_69 (args_cons rfl (args_cons rfl (args_cons rfl args_nil))) rfl (inRange_c x122 0 99 _) ?_
    rintro _ w130 ⟨rfl, hg131⟩
    have hb132 := low0 hb115 hg131
    refine wpo_not (b' := !inR x122 0 99) rfl rfl rfl ?_
    refine wpo_nil ?_
    refine wpf_cond rfl (fun h133 => ?_) (fun h133 => ?_)
    ·
     have h134 := nt_t h133
     refine wpf_seq_region ?_
     refine wpo_assign (v := .bool false) rfl rfl ?_
     refine wpo_nil ?_
     refine wpf_ret ?_
     refine blk_r ?_
     refine thn_r ?_
     refine thn_r ?_
     refine blk_r ?_
     refine thn_r ?_
     refine ⟨.bool false, res1 rfl rfl, ?_, hb132⟩
     simp [queueOk, h109, h112, h121, all_false_of (p := numQ) hx123 h134]
    ·
     have h135 := nt_f h133
     refine wpf_skip ?_
     refine blk_n ?_
     refine thn_n ?_
     refine wpf_region ?_
     refine wpo_add (c := (k : Int) + 1) e117 rfl (by omega) (by omega) (by omega) rfl ?_
     refine wpo_move (v := .int .i64 ((k : Int) + 1)) rfl rfl ?_
     refine wpo_nil ?_
     refine thn_n ?_
     exact ⟨m.t.queue.length - (k + 1), by omega, (k + 1), rfl, (by omega), (take_all_succ (p := numQ) ha hx123 h135), rfl, e118, e119, hb132⟩
   ·
    have h136 := of_decide_eq_false h120
    refine wpf_exit ?_
    refine thn_e ?_
    refine thn_e ?_
    refine blk_e ?_
    refine thn_n ?_
    refine wpf_seq_region ?_
    refine wpo_assign (v := .bool true) rfl rfl ?_
    refine wpo_nil ?_
    refine wpf_ret ?_
    refine ⟨.bool true, res1 rfl rfl, ?_, hb115⟩
    simp [queueOk, h109, h112, h136, all_of_take (p := numQ) ha (by omega)]; omega
theorem slotsOk_c (m : MTh) (w : World) (hs : SlAt w m.sa 5 (m.t.slots.map Rt.cells)) (hq : SlAt w m.qa 1 (m.t.queue.map icell)) (hsl : m.t.slots.length ≤ 9223372036854775806) (hql : m.t.queue.length ≤ 9223372036854775806) : CallsR Try.prog 73 #[.agg #[.int .i64 m.t.kind, .int .i64 m.t.lab.s, .int .i64 m.t.lab.v, .int .i64 m.t.ve, .int .i64 m.t.num, .slice m.sa m.t.slots.length m.sc, .slice m.qa m.t.queue.length m.qc, .int .i64 m.t.to]] w (fun v w' => v = .bool (slotsOk m.t) ∧ w.grownBy w' none) := by
 refine calls_of_wpf (n := 32) Try.func73 rfl Try.ntmps73 rfl ?_
 have hb0 := World.grownBy.refl w none
 refine wpf_seq_region ?_
 refine wpo_box (v := .agg #[.int .i64 m.t.kind, .int .i64 m.t.lab.s, .int .i64 m.t.lab.v, .int .i64 m.t.ve, .int .i64 m.t.num, .slice m.sa m.t.slots.length m.sc, .slice m.qa m.t.queue.length m.qc, .int .i64 m.t.to]) (cs := #[.int .i64 m.t.kind, .int .i64 m.t.lab.s, .int .i64 m.t.lab.v, .int .i64 m.t.ve, .int .i64 m.t.num, .slice m.sa m.t.slots.length m.sc, .slice m.qa m.t.queue.length m.qc, .int .i64 m.t.to]) rfl rfl rfl ?_
 intro B101 w102 hN103
 have hlB101 := hN_ge hN103 hb0
 have hb104 := low0 hb0 hN103.grw
 refine wpo_assign (v := .bool false) rfl rfl ?_
 refine wpo_nil ?_
 refine wpf_seq ?_
 refine wpf_seq_region_mid (fun f' w' => (f' 1 = .pointer (some ⟨B101, 0, none⟩) ∧ f' 2 = .bool false ∧ f' 12 = .bool ((!(decide (m.t.kind = 2))) && (!(decide (m.t.kind = 3))))) ∧ w102 = w') ?_ ?_
 ·
  refine wpo_fieldAddr (o' := 0) fo_45_0 rfl rfl rfl ?_
  refine wpo_load1 (v := .int .i64 m.t.kind) ot_3 rfl (hN103.blk.cell rfl) rfl ?_
  refine wpo_neq (q := !(decide (m.t.kind = 2))) rfl rfl rfl rfl ?_
  refine wpo_move (v := .bool (!(decide (m.t.kind = 2)))) rfl rfl ?_
  rcases bcases (!(decide (m.t.kind = 2))) with h105 | h105
  ·
   have h106 := nt_t h105
   have h107 := of_decide_eq_false h106
   refine wpo_run rfl rfl rfl h105 ?_
   refine wpo_fieldAddr (o' := 0) fo_45_0 rfl rfl rfl ?_
   refine wpo_run rfl rfl rfl h105 ?_
   refine wpo_load1 (v := .int .i64 m.t.kind) ot_3 rfl (hN103.blk.cell rfl) rfl ?_
   refine wpo_run rfl rfl rfl h105 ?_
   refine wpo_neq (q := !(decide (m.t.kind = 3))) rfl rfl rfl rfl ?_
   refine wpo_pickt (v := .bool (!(decide (m.t.kind = 3)))) rfl h105 rfl rfl ?_
   exact wpo_nil ⟨⟨rfl, rfl, (congrArg Value.bool (by first | (simp only [h105, h106, b0, b1, b2, b3, b4, b5, b6, b7, b8, b9]; done) | simp [h105, h106]))⟩, rfl⟩
  ·
   have h108 := nt_f h105
   have h109 := of_decide_eq_true h108
   iterate 3 refine wpo_pass rfl rfl rfl h105 rfl ?_
   refine wpo_pickf (v := .bool false) rfl h105 rfl rfl ?_
   exact wpo_nil ⟨⟨rfl, rfl, (congrArg Value.bool (by first | (simp only [h105, h108, b0, b1, b2, b3, b4, b5, b6, b7, b8, b9]; done) | simp [h105, h108]))⟩, rfl⟩
 ·
  rintro f110 w111 ⟨⟨e112, e113, e114⟩, rfl⟩
  refine wpf_cond e114 (fun h115 => ?_) (fun h115 => ?_)
  ·
   have h116 := and_l h115
   have h117 := nt_t h116
   have h118 := of_decide_eq_false h117
   have h119 := and_r h115
   have h120 := nt_t h119
   have h121 := of_decide_eq_false h120
   refine wpf_seq_region ?_
   refine wpo_fieldAddr (o' := 5) fo_45_4 e112 rfl rfl ?_
   refine wpo_load1 (v := .slice m.sa m.t.slots.length m.sc) ot_27 rfl (hN103.blk.cell rfl) rfl ?_
   refine wpo_len (by kernel_rfl) rfl rfl ?_
   refine wpo_eql (q := decide ((m.t.slots.length : Int) = 0)) rfl rfl rfl rfl ?_
   refine wpo_assign (v := .bool (decide ((m.t.slots.length : Int) = 0))) rfl rfl ?_
   refine wpo_nil ?_
   refine wpf_ret ?_
   refine thn_r ?_
   refine ⟨.bool (decide ((m.t.slots.length : Int) = 0)), res1 rfl rfl, ?_, hb104⟩
   rw [slotsOk_n h115]
  ·
   refine wpf_skip ?_
   refine thn_n ?_
   refine wpf_seq ?_
   refine wpf_seq_region ?_
   refine wpo_fieldAddr (o' := 5) fo_45_4 e112 rfl rfl ?_
   refine wpo_load1 (v := .slice m.sa m.t.slots.length m.sc) ot_27 rfl (hN103.blk.cell rfl) rfl ?_
   refine wpo_len (by kernel_rfl) rfl rfl ?_
   refine wpo_neq (q := !(decide ((m.t.slots.length : Int) = 4))) rfl rfl rfl rfl ?_
   refine wpo_nil ?_
   refine wpf_cond rfl (fun h122 => ?_) (fun h122 => ?_)
   ·
    have h123 := nt_t h122
    have h124 := of_decide_eq_false h123
    refine wpf_seq_region ?_
    refine wpo_assign (v := .bool false) rfl rfl ?_
    refine wpo_nil ?_
    refine wpf_ret ?_
    refine thn_r ?_
    refine ⟨.bool false, res1 rfl rfl, ?_, hb104⟩
    rw [slotsOk_y h115]
    rw [decide_eq_false (by omega)]; rfl
   ·
    have h125 := nt_f h122
    have h126 := of_decide_eq_true h125
    refine wpf_skip ?_
    refine thn_n ?_
    refine wpf_seq ?_
    refine wpf_seq_region ?_
    refine wpo_fieldAddr (o' := 5) fo_45_4 e112 rfl rfl ?_
    refine wpo_load1 (v := .slice m.sa m.t.slots.length m.sc) ot_27 rfl (hN103.blk.cell rfl) rfl ?_
    obtain ⟨b127, q128, ha129, hr130⟩ := SlAt.all wide_rt (by omega) (SlAt.low hs hb104) (by omega)
    refine wpo_s2a at_96 rfl ha129 (by omega) rfl ?_
    refine wpo_loadn (vs := m.t.slots.flatMap Rt.cells) rt_96 rfl (by rw [rows_len wide_rt]; omega) hr130 rfl ?_
    refine wpo_move (v := .int .i64 0) rfl rfl ?_
    refine wpo_nil ?_
    refine wpf_block ?_
    refine wpf_loopN (fun mm f' w' => ∃ (k : Nat), mm = m.t.slots.length - k ∧ k ≤ m.t.slots.length ∧ ((m.t.slots.take k).all rightOk) = true ∧ f' 25 = .int .i64 (k : Int) ∧ f' 24 = .agg (m.t.slots.flatMap Rt.cells).toArray ∧ w.grownBy w' none) (m.t.slots.length - 0) ⟨0, rfl, (Nat.zero_le _), rfl, rfl, rfl, hb104⟩ ?_
    rintro mm f131 w132 ⟨k, hm134, hk, ha, e135, e136, hb133⟩
    refine wpf_seq_region ?_
    refine wpo_lss (q := decide ((k : Int) < 4)) e135 rfl rfl rfl ?_
    refine wpo_nil ?_
    refine wpf_seq ?_
    refine wpf_cond rfl (fun h137 => ?_) (fun h137 => ?_)
    ·
     have h138 := of_decide_eq_true h137
     refine wpf_skip ?_
     refine thn_n ?_
     refine wpf_seq ?_
     refine wpf_block ?_
     refine wpf_seq_region ?_
     obtain ⟨x139, hx140⟩ := get_lt (l := m.t.slots) (i := k) (by omega)
     refine wpo_indexArr (g := Rt.cells) (z := x139) at_96 rt_29 wide_rt e136 e135 (by omega) (by omega) hx140 rfl ?_
     refine wpo_alloc (cs := #[.int .i64 0, .int .i64 0, .bool false, .bool false, .bool false]) zt_29 rfl rfl ?_
     intro B141 w142 hN143
     have hlB141 := hN_ge hN143 hb133
     have hb144 := low0 hb133 hN143.grw
     refine wpo_storen (vs := [.int .i64 x139.th, .int .i64 x139.ve, .bool x139.rd, .bool x139.wr, .bool x139.wk]) (cs' := #[.int .i64 x139.th, .int .i64 x139.ve, .bool x139.rd, .bool x139.wr, .bool x139.wk]) rt_29 rfl rfl rfl (by simp [Value.oneCell']) hN143.blk (Nat.le_of_ble_eq_true rfl) rfl ?_
     intro w145 hS146
     have hb147 := low1 hb144 hS146.grw (by omega)
     refine wpo_nil ?_
     refine wpf_seq_region ?_
     refine wpo_loadn (vs := [.int .i64 x139.th, .int .i64 x139.ve, .bool x139.rd, .bool x139.wr, .bool x139.wk]) rt_29 rfl rfl (hS146.blk.rangeL 0 5 rfl) rfl ?_
     refine wpo_call (vs := [.agg #[.int .i64 x139.th, .int .i64 x139.ve, .bool x139.rd, .bool x139.wr, .bool x139.wk]]) gf_20 (args_cons rfl args_nil) rfl (RightOk_c x139 _) ?_
     rintro _ w148 ⟨rfl, hg149⟩
     have hb150 := low0 hb147 hg149
     refine wpo_not (b' := !rightOk x139) rfl rfl rfl ?_
     refine wpo_nil ?_
     refine wpf_cond rfl (fun h151 => ?_) (fun h151 => ?_)
     ·
      have h152 := nt_t h151
      refine wpf_seq_region ?_
      refine wpo_assign (v := .bool false) rfl rfl ?_
      refine wpo_nil ?_
      refine wpf_ret ?_
      refine blk_r ?_
      refine thn_r ?_
      refine thn_r ?_
      refine blk_r ?_
      refine thn_r ?_
      refine ⟨.bool false, res1 rfl rfl, ?_, hb150⟩
      rw [slotsOk_y h115]
      simp [all_false_of (p := rightOk) hx140 h152]
     ·
      have h153 := nt_f h151
      refine wpf_skip ?_
      refine blk_n ?_
      refine thn_n ?_
      refine wpf_region ?_
      refine wpo_add (c := (k : Int) + 1) e135 rfl (by omega) (by omega) (by omega) rfl ?_
      refine wpo_move (v := .int .i64 ((k : Int) + 1)) rfl rfl ?_
      refine wpo_nil ?_
      refine thn_n ?_
      exact ⟨m.t.slots.length - (k + 1), by omega, (k + 1), rfl, (by omega), (take_all_succ (p := rightOk) ha hx140 h153), rfl, e136, hb150⟩
    ·
     have h154 := of_decide_eq_false h137
     refine wpf_exit ?_
     refine thn_e ?_
     refine thn_e ?_
     refine blk_e ?_
     refine thn_n ?_
     refine wpf_seq_region ?_
     refine wpo_assign (v := .bool true) rfl rfl ?_
     refine wpo_nil ?_
     refine wpf_ret ?_
     refine ⟨.bool true, res1 rfl rfl, ?_, hb133⟩
     rw [slotsOk_y h115]
     rw [all_of_take (p := rightOk) ha (by omega), decide_eq_true (by omega)]; rfl
theorem ThingOk_c (m : MTh) (w : World) (hs : SlAt w m.sa 5 (m.t.slots.map Rt.cells)) (hq : SlAt w m.qa 1 (m.t.queue.map icell)) (hsl : m.t.slots.length ≤ 9223372036854775806) (hql : m.t.queue.length ≤ 9223372036854775806) : CallsR Try.prog 26 #[.agg #[.int .i64 m.t.kind, .int .i64 m.t.lab.s, .int .i64 m.t.lab.v, .int .i64 m.t.ve, .int .i64 m.t.num, .slice m.sa m.t.slots.length m.sc, .slice m.qa m.t.queue.length m.qc, .int .i64 m.t.to]] w (fun v w' => v = .bool (thingOk m.t) ∧ w.grownBy w' none) := by
 refine calls_of_wpf (n := 31) Try.func26 rfl Try.ntmps26 rfl ?_
 have hb0 := World.grownBy.refl w none
 refine wpf_seq_region ?_
 refine wpo_box (v := .agg #[.int .i64 m.t.kind, .int .i64 m.t.lab.s, .int .i64 m.t.lab.v, .int .i64 m.t.ve, .int .i64 m.t.num, .slice m.sa m.t.slots.length m.sc, .slice m.qa m.t.queue.length m.qc, .int .i64 m.t.to]) (cs := #[.int .i64 m.t.kind, .int .i64 m.t.lab.s, .int .i64 m.t.lab.v, .int .i64 m.t.ve, .int .i64 m.t.num, .slice m.sa m.t.slots.length m.sc, .slice m.qa m.t.queue.length m.qc, .int .i64 m.t.to]) rfl rfl rfl ?_
 intro B101 w102 hN103
 have hlB101 := hN_ge hN103 hb0
 have hb104 := low0 hb0 hN103.grw
 refine wpo_assign (v := .bool false) rfl rfl ?_
 refine wpo_nil ?_
 refine wpf_seq_region_mid (fun f' w' => (f' 2 = .bool ((((((inR m.t.kind 1 5 && labelOk m.t.lab) && versOk m.t) && numOk m.t) && slotsOk m.t) && queueOk m.t) && targetOk m.t)) ∧ w102.grownBy w' none) ?_ ?_
 ·
  refine wpo_fieldAddr (o' := 0) fo_45_0 rfl rfl rfl ?_
  refine wpo_load1 (v := .int .i64 m.t.kind) ot_3 rfl (hN103.blk.cell rfl) rfl ?_
  refine wpo_call (vs := [.int .i64 m.t.kind, .int .i64 1, .int .i64 5]) gf_69 (args_cons rfl (args_cons rfl (args_cons rfl args_nil))) rfl (inRange_c m.t.kind 1 5 _) ?_
  rintro _ w135 ⟨rfl, hg136⟩
  have hb137 := low0 hb104 hg136
  refine wpo_move (v := .bool (inR m.t.kind 1 5)) rfl rfl ?_
  rcases bcases (inR m.t.kind 1 5) with h138 | h138
  ·
   refine wpo_run rfl rfl rfl h138 ?_
   refine wpo_fieldAddr (o' := 1) fo_45_1 rfl rfl rfl ?_
   refine wpo_run rfl rfl rfl h138 ?_
   have k139 := (hN103.blk.grown0 hg136)
   refine wpo_loadn (vs := [.int .i64 m.t.lab.s, .int .i64 m.t.lab.v]) rt_40 rfl rfl (k139.rangeL 1 2 rfl) rfl ?_
   refine wpo_run rfl rfl rfl h138 ?_
   refine wpo_call (vs := [.agg #[.int .i64 m.t.lab.s, .int .i64 m.t.lab.v]]) gf_70 (args_cons rfl args_nil) rfl (LabelOk_c m.t.lab _) ?_
   rintro _ w140 ⟨rfl, hg141⟩
   have hb142 := low0 hb137 hg141
   refine wpo_pickt (v := .bool (labelOk m.t.lab)) rfl h138 rfl rfl ?_
   refine wpo_move (v := .bool (labelOk m.t.lab)) rfl rfl ?_
   rcases bcases (labelOk m.t.lab) with h143 | h143
   ·
    refine wpo_run rfl rfl rfl h143 ?_
    have k144 := (k139.grown0 hg141)
    refine wpo_loadn (vs := [.int .i64 m.t.kind, .int .i64 m.t.lab.s, .int .i64 m.t.lab.v, .int .i64 m.t.ve, .int .i64 m.t.num, .slice m.sa m.t.slots.length m.sc, .slice m.qa m.t.queue.length m.qc, .int .i64 m.t.to]) rt_45 rfl rfl (k144.rangeL 0 8 rfl) rfl ?_
    refine wpo_run rfl rfl rfl h143 ?_
    refine wpo_call (vs := [.agg #[.int .i64 m.t.kind, .int .i64 m.t.lab.s, .int .i64 m.t.lab.v, .int .i64 m.t.ve, .int .i64 m.t.num, .slice m.sa m.t.slots.length m.sc, .slice m.qa m.t.queue.length m.qc, .int .i64 m.t.to]]) gf_71 (args_cons rfl args_nil) rfl (versOk_c m _) ?_
    rintro _ w145 ⟨rfl, hg146⟩
    have hb147 := low0 hb142 hg146
    refine wpo_pickt (v := .bool (versOk m.t)) rfl h143 rfl rfl ?_
    refine wpo_move (v := .bool (versOk m.t)) rfl rfl ?_
    rcases bcases (versOk m.t) with h148 | h148
    ·
     refine wpo_run rfl rfl rfl h148 ?_
     have k149 := (k144.grown0 hg146)
     refine wpo_loadn (vs := [.int .i64 m.t.kind, .int .i64 m.t.lab.s, .int .i64 m.t.lab.v, .int .i64 m.t.ve, .int .i64 m.t.num, .slice m.sa m.t.slots.length m.sc, .slice m.qa m.t.queue.length m.qc, .int .i64 m.t.to]) rt_45 rfl rfl (k149.rangeL 0 8 rfl) rfl ?_
     refine wpo_run rfl rfl rfl h148 ?_
     refine wpo_call (vs := [.agg #[.int .i64 m.t.kind, .int .i64 m.t.lab.s, .int .i64 m.t.lab.v, .int .i64 m.t.ve, .int .i64 m.t.num, .slice m.sa m.t.slots.length m.sc, .slice m.qa m.t.queue.length m.qc, .int .i64 m.t.to]]) gf_72 (args_cons rfl args_nil) rfl (numOk_c m _) ?_
     rintro _ w150 ⟨rfl, hg151⟩
     have hb152 := low0 hb147 hg151
     refine wpo_pickt (v := .bool (numOk m.t)) rfl h148 rfl rfl ?_
     refine wpo_move (v := .bool (numOk m.t)) rfl rfl ?_
     rcases bcases (numOk m.t) with h153 | h153
     ·
      refine wpo_run rfl rfl rfl h153 ?_
      have k154 := (k149.grown0 hg151)
      refine wpo_loadn (vs := [.int .i64 m.t.kind, .int .i64 m.t.lab.s, .int .i64 m.t.lab.v, .int .i64 m.t.ve, .int .i64 m.t.num, .slice m.sa m.t.slots.length m.sc, .slice m.qa m.t.queue.length m.qc, .int .i64 m.t.to]) rt_45 rfl rfl (k154.rangeL 0 8 rfl) rfl ?_
      refine wpo_run rfl rfl rfl h153 ?_
      refine wpo_call (vs := [.agg #[.int .i64 m.t.kind, .int .i64 m.t.lab.s, .int .i64 m.t.lab.v, .int .i64 m.t.ve, .int .i64 m.t.num, .slice m.sa m.t.slots.length m.sc, .slice m.qa m.t.queue.length m.qc, .int .i64 m.t.to]]) gf_73 (args_cons rfl args_nil) rfl (slotsOk_c m _ (SlAt.low hs hb152) (SlAt.low hq hb152) (by first | omega | exact Nat.le_of_ble_eq_true rfl | (simp only [List.length_nil, List.length_cons, List.length_append, List.length_replicate]; omega)) (by first | omega | exact Nat.le_of_ble_eq_true rfl | (simp only [List.length_nil, List.length_cons, List.length_append, List.length_replicate]; omega))) ?_
      rintro _ w155 ⟨rfl, hg156⟩
      have hb157 := low0 hb152 hg156
      refine wpo_pickt (v := .bool (slotsOk m.t)) rfl h153 rfl rfl ?_
      refine wpo_move (v := .bool (slotsOk m.t)) rfl rfl ?_
      rcases bcases (slotsOk m.t) with h158 | h158
      ·
       refine wpo_run rfl rfl rfl h158 ?_
       have k159 := (k154.grown0 hg156)
       refine wpo_loadn (vs := [.int .i64 m.t.kind, .int .i64 m.t.lab.s, .int .i64 m.t.lab.v, .int .i64 m.t.ve, .int .i64 m.t.num, .slice m.sa m.t.slots.length m.sc, .slice m.qa m.t.queue.length m.qc, .int .i64 m.t.to]) rt_45 rfl rfl (k159.rangeL 0 8 rfl) rfl ?_
       refine wpo_run rfl rfl rfl h158 ?_
       refine wpo_call (vs := [.agg #[.int .i64 m.t.kind, .int .i64 m.t.lab.s, .int .i64 m.t.lab.v, .int .i64 m.t.ve, .int .i64 m.t.num, .slice m.sa m.t.slots.length m.sc, .slice m.qa m.t.queue.length m.qc, .int .i64 m.t.to]]) gf_74 (args_cons rfl args_nil) rfl (queueOk_c m _ (SlAt.low hs hb157) (SlAt.low hq hb157) (by first | omega | exact Nat.le_of_ble_eq_true rfl | (simp only [List.length_nil, List.length_cons, List.length_append, List.length_replicate]; omega)) (by first | omega | exact Nat.le_of_ble_eq_true rfl | (simp only [List.length_nil, List.length_cons, List.length_append, List.length_replicate]; omega))) ?_
       rintro _ w160 ⟨rfl, hg161⟩
       have hb162 := low0 hb157 hg161
       refine wpo_pickt (v := .bool (queueOk m.t)) rfl h158 rfl rfl ?_
       refine wpo_move (v := .bool (queueOk m.t)) rfl rfl ?_
       rcases bcases (queueOk m.t) with h163 | h163
       ·
        refine wpo_run rfl rfl rfl h163 ?_
        have k164 := (k159.grown0 hg161)
        refine wpo_loadn (vs := [.int .i64 m.t.kind, .int .i64 m.t.lab.s, .int .i64 m.t.lab.v, .int .i64 m.t.ve, .int .i64 m.t.num, .slice m.sa m.t.slots.length m.sc, .slice m.qa m.t.queue.length m.qc, .int .i64 m.t.to]) rt_45 rfl rfl (k164.rangeL 0 8 rfl) rfl ?_
        refine wpo_run rfl rfl rfl h163 ?_
        refine wpo_call (vs := [.agg #[.int .i64 m.t.kind, .int .i64 m.t.lab.s, .int .i64 m.t.lab.v, .int .i64 m.t.ve, .int .i64 m.t.num, .slice m.sa m.t.slots.length m.sc, .slice m.qa m.t.queue.length m.qc, .int .i64 m.t.to]]) gf_75 (args_cons rfl args_nil) rfl (targetOk_c m _) ?_
        rintro _ w165 ⟨rfl, hg166⟩
        have hb167 := low0 hb162 hg166
        refine wpo_pickt (v := .bool (targetOk m.t)) rfl h163 rfl rfl ?_
        refine wpo_assign (v := .bool (targetOk m.t)) rfl rfl ?_
        exact wpo_nil ⟨(congrArg Value.bool (by first | (simp only [h138, h143, h148, h153, h158, h163, b0, b1, b2, b3, b4, b5, b6, b7, b8, b9]; done) | simp [h138, h143, h148, h153, h158, h163])), (grown_trans (grown_trans (grown_trans (grown_trans (grown_trans (grown_trans hg136 hg141) hg146) hg151) hg156) hg161) hg166)⟩
       ·
        refine wpo_pass rfl rfl rfl h163 rfl ?_
        refine wpo_pass rfl rfl rfl h163 rfl ?_
        refine wpo_pickf (v := .bool false) rfl h163 rfl rfl ?_
        refine wpo_assign (v := .bool false) rfl rfl ?_
        exact wpo_nil ⟨(congrArg Value.bool (by first | (simp only [h138, h143, h148, h153, h158, h163, b0, b1, b2, b3, b4, b5, b6, b7, b8, b9]; done) | simp [h138, h143, h148, h153, h158, h163])), (grown_trans (grown_trans (grown_trans (grown_trans (grown_trans hg136 hg141) hg146) hg151) hg156) hg161)⟩
      ·
       refine wpo_pass rfl rfl rfl h158 rfl ?_
       refine wpo_pass rfl rfl rfl h158 rfl ?_
       refine wpo_pickf (v := .bool false) rfl h158 rfl rfl ?_
       refine wpo_move (v := .bool false) rfl rfl ?_
       refine wpo_pass rfl rfl rfl rfl rfl ?_
       refine wpo_pass rfl rfl rfl rfl rfl ?_
       refine wpo_pickf (v := .bool false) rfl rfl rfl rfl ?_
       refine wpo_assign (v := .bool false) rfl rfl ?_
       exact wpo_nil ⟨(congrArg Value.bool (by first | (simp only [h138, h143, h148, h153, h158, b0, b1, b2, b3, b4, b5, b6, b7, b8, b9]; done) | simp [h138, h143, h148, h153, h158])), (grown_trans (grown_trans (grown_trans (grown_trans hg136 hg141) hg146) hg151) hg156)⟩
     ·
      refine wpo_pass rfl rfl rfl h153 rfl ?_
      refine wpo_pass rfl rfl rfl h153 rfl ?_
      refine wpo_pickf (v := .bool false) rfl h153 rfl rfl ?_
      refine wpo_move (v := .bool false) rfl rfl ?_
      refine wpo_pass rfl rfl rfl rfl rfl ?_
      refine wpo_pass rfl rfl rfl rfl rfl ?_
      refine wpo_pickf (v := .bool false) rfl rfl rfl rfl ?_
      refine wpo_move (v := .bool false) rfl rfl ?_
      refine wpo_pass rfl rfl rfl rfl rfl ?_
      refine wpo_pass rfl rfl rfl rfl rfl ?_
      refine wpo_pickf (v := .bool false) rfl rfl rfl rfl ?_
      refine wpo_assign (v := .bool false) rfl rfl ?_
      exact wpo_nil ⟨(congrArg Value.bool (by first | (simp only [h138, h143, h148, h153, b0, b1, b2, b3, b4, b5, b6, b7, b8, b9]; done) | simp [h138, h143, h148, h153])), (grown_trans (grown_trans (grown_trans hg136 hg141) hg146) hg151)⟩
    ·
     refine wpo_pass rfl rfl rfl h148 rfl ?_
     refine wpo_pass rfl rfl rfl h148 rfl ?_
     refine wpo_pickf (v := .bool false) rfl h148 rfl rfl ?_
     refine wpo_move (v := .bool false) rfl rfl ?_
     refine wpo_pass rfl rfl rfl rfl rfl ?_
     refine wpo_pass rfl rfl rfl rfl rfl ?_
     refine wpo_pickf (v := .bool false) rfl rfl rfl rfl ?_
     refine wpo_move (v := .bool false) rfl rfl ?_
     refine wpo_pass rfl rfl rfl rfl rfl ?_
     refine wpo_pass rfl rfl rfl rfl rfl ?_
     refine wpo_pickf (v := .bool false) rfl rfl rfl rfl ?_
     refine wpo_move (v := .bool false) rfl rfl ?_
     refine wpo_pass rfl rfl rfl rfl rfl ?_
     refine wpo_pass rfl rfl rfl rfl rfl ?_
     refine wpo_pickf (v := .bool false) rfl rfl rfl rfl ?_
     refine wpo_assign (v := .bool false) rfl rfl ?_
     exact wpo_nil ⟨(congrArg Value.bool (by first | (simp only [h138, h143, h148, b0, b1, b2, b3, b4, b5, b6, b7, b8, b9]; done) | simp [h138, h143, h148])), (grown_trans (grown_trans hg136 hg141) hg146)⟩
   ·
    refine wpo_pass rfl rfl rfl h143 rfl ?_
    refine wpo_pass rfl rfl rfl h143 rfl ?_
    refine wpo_pickf (v := .bool false) rfl h143 rfl rfl ?_
    refine wpo_move (v := .bool false) rfl rfl ?_
    refine wpo_pass rfl rfl rfl rfl rfl ?_
    refine wpo_pass rfl rfl rfl rfl rfl ?_
    refine wpo_pickf (v := .bool false) rfl rfl rfl rfl ?_
    refine wpo_move (v := .bool false) rfl rfl ?_
    refine wpo_pass rfl rfl rfl rfl rfl ?_
    refine wpo_pass rfl rfl rfl rfl rfl ?_
    refine wpo_pickf (v := .bool false) rfl rfl rfl rfl ?_
    refine wpo_move (v := .bool false) rfl rfl ?_
    refine wpo_pass rfl rfl rfl rfl rfl ?_
    refine wpo_pass rfl rfl rfl rfl rfl ?_
    refine wpo_pickf (v := .bool false) rfl rfl rfl rfl ?_
    refine wpo_move (v := .bool false) rfl rfl ?_
    refine wpo_pass rfl rfl rfl rfl rfl ?_
    refine wpo_pass rfl rfl rfl rfl rfl ?_
    refine wpo_pickf (v := .bool false) rfl rfl rfl rfl ?_
    refine wpo_assign (v := .bool false) rfl rfl ?_
    exact wpo_nil ⟨(congrArg Value.bool (by first | (simp only [h138, h143, b0, b1, b2, b3, b4, b5, b6, b7, b8, b9]; done) | simp [h138, h143])), (grown_trans hg136 hg141)⟩
  ·
   iterate 3 refine wpo_pass rfl rfl rfl h138 rfl ?_
   refine wpo_pickf (v := .bool false) rfl h138 rfl rfl ?_
   refine wpo_move (v := .bool false) rfl rfl ?_
   refine wpo_pass rfl rfl rfl rfl rfl ?_
   refine wpo_pass rfl rfl rfl rfl rfl ?_
   refine wpo_pickf (v := .bool false) rfl rfl rfl rfl ?_
   refine wpo_move (v := .bool false) rfl rfl ?_
   refine wpo_pass rfl rfl rfl rfl rfl ?_
   refine wpo_pass rfl rfl rfl rfl rfl ?_
   refine wpo_pickf (v := .bool false) rfl rfl rfl rfl ?_
   refine wpo_move (v := .bool false) rfl rfl ?_
   refine wpo_pass rfl rfl rfl rfl rfl ?_
   refine wpo_pass rfl rfl rfl rfl rfl ?_
   refine wpo_pickf (v := .bool false) rfl rfl rfl rfl ?_
   refine wpo_move (v := .bool false) rfl rfl ?_
   refine wpo_pass rfl rfl rfl rfl rfl ?_
   refine wpo_pass rfl rfl rfl rfl rfl ?_
   refine wpo_pickf (v := .bool false) rfl rfl rfl rfl ?_
   refine wpo_move (v := .bool false) rfl rfl ?_
   refine wpo_pass rfl rfl rfl rfl rfl ?_
   refine wpo_pass rfl rfl rfl rfl rfl ?_
   refine wpo_pickf (v := .bool false) rfl rfl rfl rfl ?_
   refine wpo_assign (v := .bool false) rfl rfl ?_
   exact wpo_nil ⟨(congrArg Value.bool (by first | (simp only [h138, b0, b1, b2, b3, b4, b5, b6, b7, b8, b9]; done) | simp [h138])), hg136⟩
 ·
  rintro f168 w169 ⟨e170, hg171⟩
  have hb172 := low0 hb104 hg171
  refine wpf_ret ?_
  refine ⟨.bool ((((((inR m.t.kind 1 5 && labelOk m.t.lab) && versOk m.t) && numOk m.t) && slotsOk m.t) && queueOk m.t) && targetOk m.t), res1 rfl e170, ?_, hb172⟩
  rfl
theorem l3Slots_c (n : Int) (w : World) : CallsR Try.prog 66 #[.int .i64 n] w (fun v w' => v = .bool (decide (n = 2) || decide (n = 3)) ∧ w.grownBy w' none) := by
 refine calls_of_wpf (n := 9) Try.func66 rfl Try.ntmps66 rfl ?_
 have hb0 := World.grownBy.refl w none
 refine wpf_seq_region ?_
 refine wpo_assign (v := .bool false) rfl rfl ?_
 refine wpo_nil ?_
 refine wpf_seq_region_mid (fun f' w' => (f' 2 = .bool ((decide (n = 2)) || (decide (n = 3)))) ∧ w = w') ?_ ?_
 ·
  refine wpo_move (v := .int .i64 n) rfl rfl ?_
  refine wpo_eql (q := decide (n = 2)) rfl rfl rfl rfl ?_
  refine wpo_move (v := .bool (decide (n = 2))) rfl rfl ?_
  rcases bcases (decide (n = 2)) with h101 | h101
  ·
   have h102 := of_decide_eq_true h101
   refine wpo_pass rfl rfl rfl h101 rfl ?_
   refine wpo_pass rfl rfl rfl h101 rfl ?_
   refine wpo_pickt (v := .bool true) rfl h101 rfl rfl ?_
   refine wpo_assign (v := .bool true) rfl rfl ?_
   exact wpo_nil ⟨(congrArg Value.bool (by first | (simp only [h101, b0, b1, b2, b3, b4, b5, b6, b7, b8, b9]; done) | simp [h101])), rfl⟩
  ·
   have h103 := of_decide_eq_false h101
   refine wpo_run rfl rfl rfl h101 ?_
   refine wpo_move (v := .int .i64 n) rfl rfl ?_
   refine wpo_run rfl rfl rfl h101 ?_
   refine wpo_eql (q := decide (n = 3)) rfl rfl rfl rfl ?_
   refine wpo_pickf (v := .bool (decide (n = 3))) rfl h101 rfl rfl ?_
   refine wpo_assign (v := .bool (decide (n = 3))) rfl rfl ?_
   exact wpo_nil ⟨(congrArg Value.bool (by first | (simp only [h101, b0, b1, b2, b3, b4, b5, b6, b7, b8, b9]; done) | simp [h101])), rfl⟩
 ·
  rintro f104 w105 ⟨e106, rfl⟩
  refine wpf_ret ?_
  refine ⟨.bool ((decide (n = 2)) || (decide (n = 3))), res1 rfl e106, ?_, hb0⟩
  rfl
theorem sThingOk_c (m : MTh) (w : World) (hs : SlAt w m.sa 5 (m.t.slots.map Rt.cells)) (hq : SlAt w m.qa 1 (m.t.queue.map icell)) (hsl : m.t.slots.length ≤ 9223372036854775806) (hql : m.t.queue.length ≤ 9223372036854775806) : CallsR Try.prog 67 #[.agg #[.int .i64 m.t.kind, .int .i64 m.t.lab.s, .int .i64 m.t.lab.v, .int .i64 m.t.ve, .int .i64 m.t.num, .slice m.sa m.t.slots.length m.sc, .slice m.qa m.t.queue.length m.qc, .int .i64 m.t.to]] w (fun v w' => v = .bool (thingOk m.t) ∧ w.grownBy w' none) := by
 refine calls_of_wpf (n := 144) Try.func67 rfl Try.ntmps67 rfl ?_
 have hb0 := World.grownBy.refl w none
 refine wpf_seq_region ?_
 refine wpo_box (v := .agg #[.int .i64 m.t.kind, .int .i64 m.t.lab.s, .int .i64 m.t.lab.v, .int .i64 m.t.ve, .int .i64 m.t.num, .slice m.sa m.t.slots.length m.sc, .slice m.qa m.t.queue.length m.qc, .int .i64 m.t.to]) (cs := #[.int .i64 m.t.kind, .int .i64 m.t.lab.s, .int .i64 m.t.lab.v, .int .i64 m.t.ve, .int .i64 m.t.num, .slice m.sa m.t.slots.length m.sc, .slice m.qa m.t.queue.length m.qc, .int .i64 m.t.to]) rfl rfl rfl ?_
 intro B101 w102 hN103
 have hlB101 := hN_ge hN103 hb0
 have hb104 := low0 hb0 hN103.grw
 refine wpo_assign (v := .bool false) rfl rfl ?_
 refine wpo_nil ?_
 refine wpf_seq ?_
 refine wpf_seq_region_mid (fun f' w' => (f' 1 = .pointer (some ⟨B101, 0, none⟩) ∧ f' 2 = .bool false ∧ f' 27 = .bool ((((!inR m.t.kind 1 5) || (!labelOk m.t.lab)) || (!inR m.t.ve 0 5)) || (decide (3 < (m.t.queue.length : Int))))) ∧ w102.grownBy w' none) ?_ ?_
 ·
  refine wpo_fieldAddr (o' := 0) fo_45_0 rfl rfl rfl ?_
  refine wpo_load1 (v := .int .i64 m.t.kind) ot_3 rfl (hN103.blk.cell rfl) rfl ?_
  refine wpo_call (vs := [.int .i64 m.t.kind, .int .i64 1, .int .i64 5]) gf_85 (args_cons rfl (args_cons rfl (args_cons rfl args_nil))) rfl (l6In_c m.t.kind 1 5 _) ?_
  rintro _ w120 ⟨rfl, hg121⟩
  have hb122 := low0 hb104 hg121
  refine wpo_not (b' := !inR m.t.kind 1 5) rfl rfl rfl ?_
  refine wpo_move (v := .bool (!inR m.t.kind 1 5)) rfl rfl ?_
  rcases bcases (!inR m.t.kind 1 5) with h123 | h123
  ·
   have h124 := nt_t h123
   iterate 4 refine wpo_pass rfl rfl rfl h123 rfl ?_
   refine wpo_pickt (v := .bool true) rfl h123 rfl rfl ?_
   refine wpo_move (v := .bool true) rfl rfl ?_
   iterate 4 refine wpo_pass rfl rfl rfl rfl rfl ?_
   refine wpo_pickt (v := .bool true) rfl rfl rfl rfl ?_
   refine wpo_move (v := .bool true) rfl rfl ?_
   iterate 4 refine wpo_pass rfl rfl rfl rfl rfl ?_
   refine wpo_pickt (v := .bool true) rfl rfl rfl rfl ?_
   exact wpo_nil ⟨⟨rfl, rfl, (congrArg Value.bool (by first | (simp only [h123, h124, b0, b1, b2, b3, b4, b5, b6, b7, b8, b9]; done) | simp [h123, h124]))⟩, hg121⟩
  ·
   have h125 := nt_f h123
   refine wpo_run rfl rfl rfl h123 ?_
   refine wpo_fieldAddr (o' := 1) fo_45_1 rfl rfl rfl ?_
   refine wpo_run rfl rfl rfl h123 ?_
   have k126 := (hN103.blk.grown0 hg121)
   refine wpo_loadn (vs := [.int .i64 m.t.lab.s, .int .i64 m.t.lab.v]) rt_40 rfl rfl (k126.rangeL 1 2 rfl) rfl ?_
   refine wpo_run rfl rfl rfl h123 ?_
   refine wpo_call (vs := [.agg #[.int .i64 m.t.lab.s, .int .i64 m.t.lab.v]]) gf_35 (args_cons rfl args_nil) rfl (sLabelOk_c m.t.lab _) ?_
   rintro _ w127 ⟨rfl, hg128⟩
   have hb129 := low0 hb122 hg128
   refine wpo_run rfl rfl rfl h123 ?_
   refine wpo_not (b' := !labelOk m.t.lab) rfl rfl rfl ?_
   refine wpo_pickf (v := .bool (!labelOk m.t.lab)) rfl h123 rfl rfl ?_
   refine wpo_move (v := .bool (!labelOk m.t.lab)) rfl rfl ?_
   rcases bcases (!labelOk m.t.lab) with h130 | h130
   ·
    have h131 := nt_t h130
    iterate 4 refine wpo_pass rfl rfl rfl h130 rfl ?_
    refine wpo_pickt (v := .bool true) rfl h130 rfl rfl ?_
    refine wpo_move (v := .bool true) rfl rfl ?_
    iterate 4 refine wpo_pass rfl rfl rfl rfl rfl ?_
    refine wpo_pickt (v := .bool true) rfl rfl rfl rfl ?_
    exact wpo_nil ⟨⟨rfl, rfl, (congrArg Value.bool (by first | (simp only [h123, h125, h130, h131, b0, b1, b2, b3, b4, b5, b6, b7, b8, b9]; done) | simp [h123, h125, h130, h131]))⟩, (grown_trans hg121 hg128)⟩
   ·
    have h132 := nt_f h130
    refine wpo_run rfl rfl rfl h130 ?_
    refine wpo_fieldAddr (o' := 3) fo_45_2 rfl rfl rfl ?_
    refine wpo_run rfl rfl rfl h130 ?_
    have k133 := (k126.grown0 hg128)
    refine wpo_load1 (v := .int .i64 m.t.ve) ot_3 rfl (k133.cell rfl) rfl ?_
    refine wpo_run rfl rfl rfl h130 ?_
    refine wpo_call (vs := [.int .i64 m.t.ve, .int .i64 0, .int .i64 5]) gf_85 (args_cons rfl (args_cons rfl (args_cons rfl args_nil))) rfl (l6In_c m.t.ve 0 5 _) ?_
    rintro _ w134 ⟨rfl, hg135⟩
    have hb136 := low0 hb129 hg135
    refine wpo_run rfl rfl rfl h130 ?_
    refine wpo_not (b' := !inR m.t.ve 0 5) rfl rfl rfl ?_
    refine wpo_pickf (v := .bool (!inR m.t.ve 0 5)) rfl h130 rfl rfl ?_
    refine wpo_move (v := .bool (!inR m.t.ve 0 5)) rfl rfl ?_
    rcases bcases (!inR m.t.ve 0 5) with h137 | h137
    ·
     have h138 := nt_t h137
     iterate 4 refine wpo_pass rfl rfl rfl h137 rfl ?_
     refine wpo_pickt (v := .bool true) rfl h137 rfl rfl ?_
     exact wpo_nil ⟨⟨rfl, rfl, (congrArg Value.bool (by first | (simp only [h123, h125, h130, h132, h137, h138, b0, b1, b2, b3, b4, b5, b6, b7, b8, b9]; done) | simp [h123, h125, h130, h132, h137, h138]))⟩, (grown_trans (grown_trans hg121 hg128) hg135)⟩
    ·
     have h139 := nt_f h137
     refine wpo_run rfl rfl rfl h137 ?_
     refine wpo_fieldAddr (o' := 6) fo_45_5 rfl rfl rfl ?_
     refine wpo_run rfl rfl rfl h137 ?_
     have k140 := (k133.grown0 hg135)
     refine wpo_load1 (v := .slice m.qa m.t.queue.length m.qc) ot_43 rfl (k140.cell rfl) rfl ?_
     refine wpo_run rfl rfl rfl h137 ?_
     refine wpo_len (by kernel_rfl) rfl rfl ?_
     refine wpo_run rfl rfl rfl h137 ?_
     refine wpo_gtr (q := decide (3 < (m.t.queue.length : Int))) rfl rfl rfl rfl ?_
     refine wpo_pickf (v := .bool (decide (3 < (m.t.queue.length : Int)))) rfl h137 rfl rfl ?_
     exact wpo_nil ⟨⟨rfl, rfl, (congrArg Value.bool (by first | (simp only [h123, h125, h130, h132, h137, h139, b0, b1, b2, b3, b4, b5, b6, b7, b8, b9]; done) | simp [h123, h125, h130, h132, h137, h139]))⟩, (grown_trans (grown_trans hg121 hg128) hg135)⟩
 ·
  rintro f141 w142 ⟨⟨e143, e144, e145⟩, hg146⟩
  have hb147 := low0 hb104 hg146
  refine wpf_cond e145 (fun h148 => ?_) (fun h148 => ?_)
  ·
   refine wpf_seq_region ?_
   refine wpo_assign (v := .bool false) rfl rfl ?_
   refine wpo_nil ?_
   refine wpf_ret ?_
   refine thn_r ?_
   refine ⟨.bool false, res1 rfl rfl, ?_, hb147⟩
   exact congrArg Value.bool (th_a h148)
  ·
   have h149 := or_l h148
   have h150 := or_l h149
   have h151 := or_l h150
   have h152 := nt_f h151
   have h153 := or_r h150
   have h154 := nt_f h153
   have h155 := or_r h149
   have h156 := nt_f h155
   have h157 := or_r h148
   have h158 := of_decide_eq_false h157
   refine wpf_skip ?_
   refine thn_n ?_
   refine wpf_seq_region ?_
   refine wpo_assign (v := .int .i64 0) rfl rfl ?_
   refine wpo_nil ?_
   refine wpf_seq ?_
   refine wpf_seq_region ?_
   refine wpo_fieldAddr (o' := 0) fo_45_0 e143 rfl rfl ?_
   have k159 := (hN103.blk.grown0 hg146)
   refine wpo_load1 (v := .int .i64 m.t.kind) ot_3 rfl (k159.cell rfl) rfl ?_
   refine wpo_eql (q := decide (m.t.kind = 3)) rfl rfl rfl rfl ?_
   refine wpo_nil ?_
   refine wpf_mid (fun f' w' => (f' 1 = .pointer (some ⟨B101, 0, none⟩) ∧ f' 2 = .bool false ∧ f' 3 = .int .i64 (if m.t.kind = 3 then (-4) else 0)) ∧ w142 = w') ?_ ?_
   ·
    refine wpf_cond rfl (fun h160 => ?_) (fun h160 => ?_)
    ·
     have h161 := of_decide_eq_true h160
     refine wpf_region ?_
     refine wpo_assign (v := .int .i64 (-4)) rfl rfl ?_
     refine wpo_nil ?_
     refine thn_n ?_
     exact ⟨⟨e143, e144, (congrArg (Value.int .i64) (if_pos (of_decide_eq_true h160)).symm)⟩, rfl⟩
    ·
     have h162 := of_decide_eq_false h160
     refine wpf_skip ?_
     refine thn_n ?_
     exact ⟨⟨e143, e144, (congrArg (Value.int .i64) (if_neg (of_decide_eq_false h160)).symm)⟩, rfl⟩
   ·
    rintro f163 _ ⟨⟨e165, e166, e167⟩, rfl⟩
    refine thn_n ?_
    refine wpf_seq ?_
    refine wpf_seq_region_mid (fun f' w' => (f' 1 = .pointer (some ⟨B101, 0, none⟩) ∧ f' 2 = .bool false ∧ f' 65 = .bool (((!inR m.t.num (if m.t.kind = 3 then (-4) else 0) 99) || ((!(decide (m.t.num = 0))) && ((decide (m.t.kind = 2)) || (decide (m.t.kind = 4))))) || ((!(decide (m.t.ve = 0))) && ((decide (m.t.kind = 3)) || (decide (m.t.kind = 5)))))) ∧ w142.grownBy w' none) ?_ ?_
    ·
     refine wpo_fieldAddr (o' := 4) fo_45_3 e165 rfl rfl ?_
     refine wpo_load1 (v := .int .i64 m.t.num) ot_3 rfl (k159.cell rfl) rfl ?_
     refine wpo_move (v := .int .i64 (if m.t.kind = 3 then (-4) else 0)) e167 rfl ?_
     refine wpo_call (vs := [.int .i64 m.t.num, .int .i64 (if m.t.kind = 3 then (-4) else 0), .int .i64 99]) gf_85 (args_cons rfl (args_cons rfl (args_cons rfl args_nil))) rfl (l6In_c m.t.num (if m.t.kind = 3 then (-4) else 0) 99 _) ?_
     rintro _ w175 ⟨rfl, hg176⟩
     have hb177 := low0 hb147 hg176
     refine wpo_not (b' := !inR m.t.num (if m.t.kind = 3 then (-4) else 0) 99) rfl rfl rfl ?_
     refine wpo_move (v := .bool (!inR m.t.num (if m.t.kind = 3 then (-4) else 0) 99)) rfl rfl ?_
     rcases bcases (!inR m.t.num (if m.t.kind = 3 then (-4) else 0) 99) with h178 | h178
     ·
      have h179 := nt_t h178
      iterate 4 refine wpo_pass rfl rfl rfl h178 rfl ?_
      iterate 8 refine wpo_passu rfl rfl rfl rfl ?_
      refine wpo_pass rfl rfl rfl h178 rfl ?_
      refine wpo_pickt (v := .bool true) rfl h178 rfl rfl ?_
      refine wpo_move (v := .bool true) rfl rfl ?_
      iterate 4 refine wpo_pass rfl rfl rfl rfl rfl ?_
      iterate 8 refine wpo_passu rfl rfl rfl rfl ?_
      refine wpo_pass rfl rfl rfl rfl rfl ?_
      refine wpo_pickt (v := .bool true) rfl rfl rfl rfl ?_
      exact wpo_nil ⟨⟨e165, e166, (congrArg Value.bool (by first | (simp only [h148, h149, h150, h151, h152, h153, h154, h155, h156, h157, h178, h179, b0, b1, b2, b3, b4, b5, b6, b7, b8, b9]; done) | simp [h148, h149, h150, h151, h152, h153, h154, h155, h156, h157, h178, h179]))⟩, hg176⟩
     ·
      have h180 := nt_f h178
      refine wpo_run rfl rfl rfl h178 ?_
      refine wpo_fieldAddr (o' := 4) fo_45_3 e165 rfl rfl ?_
      refine wpo_run rfl rfl rfl h178 ?_
      have k181 := (k159.grown0 hg176)
      refine wpo_load1 (v := .int .i64 m.t.num) ot_3 rfl (k181.cell rfl) rfl ?_
      refine wpo_run rfl rfl rfl h178 ?_
      refine wpo_neq (q := !(decide (m.t.num = 0))) rfl rfl rfl rfl ?_
      refine wpo_run rfl rfl rfl h178 ?_
      refine wpo_move (v := .bool (!(decide (m.t.num = 0)))) rfl rfl ?_
      rcases bcases (!(decide (m.t.num = 0))) with h182 | h182
      ·
       have h183 := nt_t h182
       have h184 := of_decide_eq_false h183
       refine wpo_run rfl rfl rfl h182 ?_
       refine wpo_fieldAddr (o' := 0) fo_45_0 e165 rfl rfl ?_
       refine wpo_run rfl rfl rfl h182 ?_
       refine wpo_load1 (v := .int .i64 m.t.kind) ot_3 rfl (k181.cell rfl) rfl ?_
       refine wpo_run rfl rfl rfl h182 ?_
       refine wpo_eql (q := decide (m.t.kind = 2)) rfl rfl rfl rfl ?_
       refine wpo_run rfl rfl rfl h182 ?_
       refine wpo_move (v := .bool (decide (m.t.kind = 2))) rfl rfl ?_
       rcases bcases (decide (m.t.kind = 2)) with h185 | h185
       ·
        have h186 := of_decide_eq_true h185
        iterate 3 refine wpo_pass rfl rfl rfl h185 rfl ?_
        refine wpo_run rfl rfl rfl h182 ?_
        refine wpo_pickt (v := .bool true) rfl h185 rfl rfl ?_
        refine wpo_run rfl rfl rfl h178 ?_
        refine wpo_pickt (v := .bool true) rfl h182 rfl rfl ?_
        refine wpo_pickf (v := .bool true) rfl h178 rfl rfl ?_
        refine wpo_move (v := .bool true) rfl rfl ?_
        iterate 4 refine wpo_pass rfl rfl rfl rfl rfl ?_
        iterate 8 refine wpo_passu rfl rfl rfl rfl ?_
        refine wpo_pass rfl rfl rfl rfl rfl ?_
        refine wpo_pickt (v := .bool true) rfl rfl rfl rfl ?_
        exact wpo_nil ⟨⟨e165, e166, (congrArg Value.bool (by first | (simp only [h148, h149, h150, h151, h152, h153, h154, h155, h156, h157, h178, h180, h182, h183, h185, b0, b1, b2, b3, b4, b5, b6, b7, b8, b9]; done) | simp [h148, h149, h150, h151, h152, h153, h154, h155, h156, h157, h178, h180, h182, h183, h185]))⟩, hg176⟩
       ·
        have h187 := of_decide_eq_false h185
        refine wpo_run rfl rfl rfl h185 ?_
        refine wpo_fieldAddr (o' := 0) fo_45_0 e165 rfl rfl ?_
        refine wpo_run rfl rfl rfl h185 ?_
        refine wpo_load1 (v := .int .i64 m.t.kind) ot_3 rfl (k181.cell rfl) rfl ?_
        refine wpo_run rfl rfl rfl h185 ?_
        refine wpo_eql (q := decide (m.t.kind = 4)) rfl rfl rfl rfl ?_
        refine wpo_run rfl rfl rfl h182 ?_
        refine wpo_pickf (v := .bool (decide (m.t.kind = 4))) rfl h185 rfl rfl ?_
        refine wpo_run rfl rfl rfl h178 ?_
        refine wpo_pickt (v := .bool (decide (m.t.kind = 4))) rfl h182 rfl rfl ?_
        refine wpo_pickf (v := .bool (decide (m.t.kind = 4))) rfl h178 rfl rfl ?_
        refine wpo_move (v := .bool (decide (m.t.kind = 4))) rfl rfl ?_
        rcases bcases (decide (m.t.kind = 4)) with h188 | h188
        ·
         have h189 := of_decide_eq_true h188
         iterate 4 refine wpo_pass rfl rfl rfl h188 rfl ?_
         iterate 8 refine wpo_passu rfl rfl rfl rfl ?_
         refine wpo_pass rfl rfl rfl h188 rfl ?_
         refine wpo_pickt (v := .bool true) rfl h188 rfl rfl ?_
         exact wpo_nil ⟨⟨e165, e166, (congrArg Value.bool (by first | (simp only [h148, h149, h150, h151, h152, h153, h154, h155, h156, h157, h178, h180, h182, h183, h185, h188, b0, b1, b2, b3, b4, b5, b6, b7, b8, b9]; done) | simp [h148, h149, h150, h151, h152, h153, h154, h155, h156, h157, h178, h180, h182, h183, h185, h188]))⟩, hg176⟩
        ·
         have h190 := of_decide_eq_false h188
         refine wpo_run rfl rfl rfl h188 ?_
         refine wpo_fieldAddr (o' := 3) fo_45_2 e165 rfl rfl ?_
         refine wpo_run rfl rfl rfl h188 ?_
         refine wpo_load1 (v := .int .i64 m.t.ve) ot_3 rfl (k181.cell rfl) rfl ?_
         refine wpo_run rfl rfl rfl h188 ?_
         refine wpo_neq (q := !(decide (m.t.ve = 0))) rfl rfl rfl rfl ?_
         refine wpo_run rfl rfl rfl h188 ?_
         refine wpo_move (v := .bool (!(decide (m.t.ve = 0)))) rfl rfl ?_
         rcases bcases (!(decide (m.t.ve = 0))) with h191 | h191
         ·
          have h192 := nt_t h191
          have h193 := of_decide_eq_false h192
          refine wpo_run rfl rfl rfl h191 ?_
          refine wpo_fieldAddr (o' := 0) fo_45_0 e165 rfl rfl ?_
          refine wpo_run rfl rfl rfl h191 ?_
          refine wpo_load1 (v := .int .i64 m.t.kind) ot_3 rfl (k181.cell rfl) rfl ?_
          refine wpo_run rfl rfl rfl h191 ?_
          refine wpo_eql (q := decide (m.t.kind = 3)) rfl rfl rfl rfl ?_
          refine wpo_run rfl rfl rfl h191 ?_
          refine wpo_move (v := .bool (decide (m.t.kind = 3))) rfl rfl ?_
          rcases bcases (decide (m.t.kind = 3)) with h194 | h194
          ·
           have h195 := of_decide_eq_true h194
           iterate 3 refine wpo_pass rfl rfl rfl h194 rfl ?_
           refine wpo_run rfl rfl rfl h191 ?_
           refine wpo_pickt (v := .bool true) rfl h194 rfl rfl ?_
           refine wpo_run rfl rfl rfl h188 ?_
           refine wpo_pickt (v := .bool true) rfl h191 rfl rfl ?_
           refine wpo_pickf (v := .bool true) rfl h188 rfl rfl ?_
           exact wpo_nil ⟨⟨e165, e166, (congrArg Value.bool (by first | (simp only [h148, h149, h150, h151, h152, h153, h154, h155, h156, h157, h178, h180, h182, h183, h185, h188, h191, h192, h194, b0, b1, b2, b3, b4, b5, b6, b7, b8, b9]; done) | simp [h148, h149, h150, h151, h152, h153, h154, h155, h156, h157, h178, h180, h182, h183, h185, h188, h191, h192, h194]))⟩, hg176⟩
          ·
           have h196 := of_decide_eq_false h194
           refine wpo_run rfl rfl rfl h194 ?_
           refine wpo_fieldAddr (o' := 0) fo_45_0 e165 rfl rfl ?_
           refine wpo_run rfl rfl rfl h194 ?_
           refine wpo_load1 (v := .int .i64 m.t.kind) ot_3 rfl (k181.cell rfl) rfl ?_
           refine wpo_run rfl rfl rfl h194 ?_
           refine wpo_eql (q := decide (m.t.kind = 5)) rfl rfl rfl rfl ?_
           refine wpo_run rfl rfl rfl h191 ?_
           refine wpo_pickf (v := .bool (decide (m.t.kind = 5))) rfl h194 rfl rfl ?_
           refine wpo_run rfl rfl rfl h188 ?_
           refine wpo_pickt (v := .bool (decide (m.t.kind = 5))) rfl h191 rfl rfl ?_
           refine wpo_pickf (v := .bool (decide (m.t.kind = 5))) rfl h188 rfl rfl ?_
           exact wpo_nil ⟨⟨e165, e166, (congrArg Value.bool (by first | (simp only [h148, h149, h150, h151, h152, h153, h154, h155, h156, h157, h178, h180, h182, h183, h185, h188, h191, h192, h194, b0, b1, b2, b3, b4, b5, b6, b7, b8, b9]; done) | simp [h148, h149, h150, h151, h152, h153, h154, h155, h156, h157, h178, h180, h182, h183, h185, h188, h191, h192, h194]))⟩, hg176⟩
         ·
          have h197 := nt_f h191
          have h198 := of_decide_eq_true h197
          iterate 4 refine wpo_pass rfl rfl rfl h191 rfl ?_
          iterate 3 refine wpo_passu rfl rfl rfl rfl ?_
          refine wpo_pass rfl rfl rfl h191 rfl ?_
          refine wpo_run rfl rfl rfl h188 ?_
          refine wpo_pickf (v := .bool false) rfl h191 rfl rfl ?_
          refine wpo_pickf (v := .bool false) rfl h188 rfl rfl ?_
          exact wpo_nil ⟨⟨e165, e166, (congrArg Value.bool (by first | (simp only [h148, h149, h150, h151, h152, h153, h154, h155, h156, h157, h178, h180, h182, h183, h185, h188, h191, h197, b0, b1, b2, b3, b4, b5, b6, b7, b8, b9]; done) | simp [h148, h149, h150, h151, h152, h153, h154, h155, h156, h157, h178, h180, h182, h183, h185, h188, h191, h197]))⟩, hg176⟩
      ·
       have h199 := nt_f h182
       have h200 := of_decide_eq_true h199
       iterate 4 refine wpo_pass rfl rfl rfl h182 rfl ?_
       iterate 3 refine wpo_passu rfl rfl rfl rfl ?_
       refine wpo_pass rfl rfl rfl h182 rfl ?_
       refine wpo_run rfl rfl rfl h178 ?_
       refine wpo_pickf (v := .bool false) rfl h182 rfl rfl ?_
       refine wpo_pickf (v := .bool false) rfl h178 rfl rfl ?_
       refine wpo_move (v := .bool false) rfl rfl ?_
       refine wpo_run rfl rfl rfl rfl ?_
       refine wpo_fieldAddr (o' := 3) fo_45_2 e165 rfl rfl ?_
       refine wpo_run rfl rfl rfl rfl ?_
       refine wpo_load1 (v := .int .i64 m.t.ve) ot_3 rfl (k181.cell rfl) rfl ?_
       refine wpo_run rfl rfl rfl rfl ?_
       refine wpo_neq (q := !(decide (m.t.ve = 0))) rfl rfl rfl rfl ?_
       refine wpo_run rfl rfl rfl rfl ?_
       refine wpo_move (v := .bool (!(decide (m.t.ve = 0)))) rfl rfl ?_
       rcases bcases (!(decide (m.t.ve = 0))) with h201 | h201
       ·
        have h202 := nt_t h201
        have h203 := of_decide_eq_false h202
        refine wpo_run rfl rfl rfl h201 ?_
        refine wpo_fieldAddr (o' := 0) fo_45_0 e165 rfl rfl ?_
        refine wpo_run rfl rfl rfl h201 ?_
        refine wpo_load1 (v := .int .i64 m.t.kind) ot_3 rfl (k181.cell rfl) rfl ?_
        refine wpo_run rfl rfl rfl h201 ?_
        refine wpo_eql (q := decide (m.t.kind = 3)) rfl rfl rfl rfl ?_
        refine wpo_run rfl rfl rfl h201 ?_
        refine wpo_move (v := .bool (decide (m.t.kind = 3))) rfl rfl ?_
        rcases bcases (decide (m.t.kind = 3)) with h204 | h204
        ·
         have h205 := of_decide_eq_true h204
         iterate 3 refine wpo_pass rfl rfl rfl h204 rfl ?_
         refine wpo_run rfl rfl rfl h201 ?_
         refine wpo_pickt (v := .bool true) rfl h204 rfl rfl ?_
         refine wpo_run rfl rfl rfl rfl ?_
         refine wpo_pickt (v := .bool true) rfl h201 rfl rfl ?_
         refine wpo_pickf (v := .bool true) rfl rfl rfl rfl ?_
         exact wpo_nil ⟨⟨e165, e166, (congrArg Value.bool (by first | (simp only [h148, h149, h150, h151, h152, h153, h154, h155, h156, h157, h178, h180, h182, h199, h201, h202, h204, b0, b1, b2, b3, b4, b5, b6, b7, b8, b9]; done) | simp [h148, h149, h150, h151, h152, h153, h154, h155, h156, h157, h178, h180, h182, h199, h201, h202, h204]))⟩, hg176⟩
        ·
         have h206 := of_decide_eq_false h204
         refine wpo_run rfl rfl rfl h204 ?_
         refine wpo_fieldAddr (o' := 0) fo_45_0 e165 rfl rfl ?_
         refine wpo_run rfl rfl rfl h204 ?_
         refine wpo_load1 (v := .int .i64 m.t.kind) ot_3 rfl (k181.cell rfl) rfl ?_
         refine wpo_run rfl rfl rfl h204 ?_
         refine wpo_eql (q := decide (m.t.kind = 5)) rfl rfl rfl rfl ?_
         refine wpo_run rfl rfl rfl h201 ?_
         refine wpo_pickf (v := .bool (decide (m.t.kind = 5))) rfl h204 rfl rfl ?_
         refine wpo_run rfl rfl rfl rfl ?_
         refine wpo_pickt (v := .bool (decide (m.t.kind = 5))) rfl h201 rfl rfl ?_
         refine wpo_pickf (v := .bool (decide (m.t.kind = 5))) rfl rfl rfl rfl ?_
         exact wpo_nil ⟨⟨e165, e166, (congrArg Value.bool (by first | (simp only [h148, h149, h150, h151, h152, h153, h154, h155, h156, h157, h178, h180, h182, h199, h201, h202, h204, b0, b1, b2, b3, b4, b5, b6, b7, b8, b9]; done) | simp [h148, h149, h150, h151, h152, h153, h154, h155, h156, h157, h178, h180, h182, h199, h201, h202, h204]))⟩, hg176⟩
       ·
        have h207 := nt_f h201
        have h208 := of_decide_eq_true h207
        iterate 4 refine wpo_pass rfl rfl rfl h201 rfl ?_
        iterate 3 refine wpo_passu rfl rfl rfl rfl ?_
        refine wpo_pass rfl rfl rfl h201 rfl ?_
        refine wpo_run rfl rfl rfl rfl ?_
        refine wpo_pickf (v := .bool false) rfl h201 rfl rfl ?_
        refine wpo_pickf (v := .bool false) rfl rfl rfl rfl ?_
        exact wpo_nil ⟨⟨e165, e166, (congrArg Value.bool (by first | (simp only [h148, h149, h150, h151, h152, h153, h154, h155, h156, h157, h178, h180, h182, h199, h201, h207, b0, b1, b2, b3, b4, b5, b6, b7, b8, b9]; done) | simp [h148, h149, h150, h151, h152, h153, h154, h155, h156, h157, h178, h180, h182, h199, h201, h207]))⟩, hg176⟩
    ·
     rintro f209 w210 ⟨⟨e211, e212, e213⟩, hg214⟩
     have hb215 := low0 hb147 hg214
     refine wpf_cond e213 (fun h216 => ?_) (fun h216 => ?_)
     ·
      refine wpf_seq_region ?_
      refine wpo_assign (v := .bool false) rfl rfl ?_
      refine wpo_nil ?_
      refine wpf_ret ?_
      refine thn_r ?_
      refine ⟨.bool false, res1 rfl rfl, ?_, hb215⟩
      exact congrArg Value.bool (th_b h216)
     ·
      have h217 := or_l h216
      have h218 := or_l h217
      have h219 := nt_f h218
      have h220 := or_r h217
      have h221 := or_r h216
      refine wpf_skip ?_
      refine thn_n ?_
      refine wpf_seq ?_
      refine wpf_seq_region ?_
      refine wpo_assign (v := .int .i64 0) rfl rfl ?_
      refine wpo_nil ?_
      refine wpf_block ?_
      have k222 := (k159.grown0 hg214)
      refine wpf_loopN (fun mm f' w' => ∃ (k : Nat), mm = m.t.queue.length - k ∧ k ≤ m.t.queue.length ∧ ((m.t.queue.take k).all numQ) = true ∧ f' 4 = .int .i64 (k : Int) ∧ f' 1 = .pointer (some ⟨B101, 0, none⟩) ∧ w.grownBy w' none ∧ Blk w' B101 45 #[.int .i64 m.t.kind, .int .i64 m.t.lab.s, .int .i64 m.t.lab.v, .int .i64 m.t.ve, .int .i64 m.t.num, .slice m.sa m.t.slots.length m.sc, .slice m.qa m.t.queue.length m.qc, .int .i64 m.t.to]) (m.t.queue.length - 0) ⟨0, rfl, (Nat.zero_le _), rfl, rfl, e211, hb215, k222⟩ ?_
      rintro mm f223 w224 ⟨k, hm226, hk, ha, e227, e228, hb225, k229⟩
      refine wpf_seq ?_
      refine wpf_seq_region ?_
      refine wpo_move (v := .int .i64 (k : Int)) e227 rfl ?_
      refine wpo_fieldAddr (o' := 6) fo_45_5 e228 rfl rfl ?_
      refine wpo_load1 (v := .slice m.qa m.t.queue.length m.qc) ot_43 rfl (k229.cell rfl) rfl ?_
      refine wpo_len (by kernel_rfl) rfl rfl ?_
      refine wpo_lss (q := decide ((k : Int) < (m.t.queue.length : Int))) rfl rfl rfl rfl ?_
      refine wpo_nil ?_
      refine wpf_cond rfl (fun h230 => ?_) (fun h230 => ?_)
      ·
       have h231 := of_decide_eq_true h230
       refine wpf_skip ?_
       refine thn_n ?_
       refine wpf_seq ?_
       refine wpf_block ?_
       refine wpf_seq_region ?_
       refine wpo_fieldAddr (o' := 6) fo_45_5 e228 rfl rfl ?_
       refine wpo_load1 (v := .slice m.qa m.t.queue.length m.qc) ot_43 rfl (k229.cell rfl) rfl ?_
       refine wpo_move (v := .int .i64 (k : Int)) e227 rfl ?_
       obtain ⟨x232, hx233⟩ := get_lt (l := m.t.queue) (i := k) (by omega)
       obtain ⟨b234, q235, o236, ha237, ho238, hr239⟩ := SlAt.at hq (map_get hx233)
       refine wpo_indexE es_43 rfl rfl ha237 ho238 (by omega) (by omega) rfl ?_
       refine wpo_load1 (v := .int .i64 x232) ot_3 rfl ((range_low hr239 hb225) 0 _ rfl) rfl ?_
       refine wpo_call (vs := [.int .i64 x232, .int .i64 0, .int .i64 99]) gf_85 (args_cons rfl (args_cons rfl (args_cons rfl args_nil))) rfl (l6In_c x232 0 99 _) ?_
       rintro _ w240 ⟨rfl, hg241⟩
       have hb242 := low0 hb225 hg241
       refine wpo_not (b' := !inR x232 0 99) rfl rfl rfl ?_
       refine wpo_nil ?_
       refine wpf_cond rfl (fun h243 => ?_) (fun h243 => ?_)
       ·
        have h244 := nt_t h243
        refine wpf_seq_region ?_
        refine wpo_assign (v := .bool false) rfl rfl ?_
        refine wpo_nil ?_
        refine wpf_ret ?_
        refine blk_r ?_
        refine thn_r ?_
        refine thn_r ?_
        refine blk_r ?_
        refine thn_r ?_
        refine ⟨.bool false, res1 rfl rfl, ?_, hb242⟩
        exact congrArg Value.bool (th_q hx233 h244)
       ·
        have h245 := nt_f h243
        refine wpf_skip ?_
        refine blk_n ?_
        refine thn_n ?_
        refine wpf_region ?_
        refine wpo_move (v := .int .i64 (k : Int)) e227 rfl ?_
        refine wpo_add (c := (k : Int) + 1) rfl rfl (by omega) (by omega) (by omega) rfl ?_
        refine wpo_assign (v := .int .i64 ((k : Int) + 1)) rfl rfl ?_
        refine wpo_nil ?_
        refine thn_n ?_
        have k246 := (k229.grown0 hg241)
        exact ⟨m.t.queue.length - (k + 1), by omega, (k + 1), rfl, (by omega), (take_all_succ (p := numQ) ha hx233 h245), rfl, e228, hb242, k246⟩
      ·
       have h247 := of_decide_eq_false h230
       refine wpf_exit ?_
       refine thn_e ?_
       refine thn_e ?_
       refine blk_e ?_
       refine thn_n ?_
       refine wpf_seq ?_
       refine wpf_seq_region ?_
       refine wpo_assign (v := .int .i64 0) rfl rfl ?_
       refine wpo_nil ?_
       refine wpf_block ?_
       refine wpf_loopN (fun mm f' w' => ∃ (j : Nat), mm = m.t.slots.length - j ∧ j ≤ m.t.slots.length ∧ ((m.t.slots.take j).all rightOk) = true ∧ f' 5 = .int .i64 (j : Int) ∧ f' 1 = .pointer (some ⟨B101, 0, none⟩) ∧ w.grownBy w' none ∧ Blk w' B101 45 #[.int .i64 m.t.kind, .int .i64 m.t.lab.s, .int .i64 m.t.lab.v, .int .i64 m.t.ve, .int .i64 m.t.num, .slice m.sa m.t.slots.length m.sc, .slice m.qa m.t.queue.length m.qc, .int .i64 m.t.to]) (m.t.slots.length - 0) ⟨0, rfl, (Nat.zero_le _), rfl, rfl, e228, hb225, k229⟩ ?_
       rintro mm f248 w249 ⟨j, hm251, hj, hb, e252, e253, hb250, k254⟩
       refine wpf_seq ?_
       refine wpf_seq_region ?_
       refine wpo_move (v := .int .i64 (j : Int)) e252 rfl ?_
       refine wpo_fieldAddr (o' := 5) fo_45_4 e253 rfl rfl ?_
       refine wpo_load1 (v := .slice m.sa m.t.slots.length m.sc) ot_27 rfl (k254.cell rfl) rfl ?_
       refine wpo_len (by kernel_rfl) rfl rfl ?_
       refine wpo_lss (q := decide ((j : Int) < (m.t.slots.length : Int))) rfl rfl rfl rfl ?_
       refine wpo_nil ?_
       refine wpf_cond rfl (fun h255 => ?_) (fun h255 => ?_)
       ·
        have h256 := of_decide_eq_true h255
        refine wpf_skip ?_
        refine thn_n ?_
        refine wpf_seq ?_
        refine wpf_block ?_
        refine wpf_seq_region ?_
        refine wpo_fieldAddr (o' := 5) fo_45_4 e253 rfl rfl ?_
        refine wpo_load1 (v := .slice m.sa m.t.slots.length m.sc) ot_27 rfl (k254.cell rfl) rfl ?_
        refine wpo_move (v := .int .i64 (j : Int)) e252 rfl ?_
        obtain ⟨x257, hx258⟩ := get_lt (l := m.t.slots) (i := j) (by omega)
        obtain ⟨b259, q260, o261, ha262, ho263, hr264⟩ := SlAt.at hs (map_get hx258)
        refine wpo_indexE es_27 rfl rfl ha262 ho263 (by omega) (by omega) rfl ?_
        refine wpo_loadn (vs := [.int .i64 x257.th, .int .i64 x257.ve, .bool x257.rd, .bool x257.wr, .bool x257.wk]) rt_29 rfl rfl (range_sub (range_low hr264 hb250) 0 5 rfl) rfl ?_
        refine wpo_call (vs := [.agg #[.int .i64 x257.th, .int .i64 x257.ve, .bool x257.rd, .bool x257.wr, .bool x257.wk]]) gf_54 (args_cons rfl args_nil) rfl (sRightOk_c x257 _) ?_
        rintro _ w265 ⟨rfl, hg266⟩
        have hb267 := low0 hb250 hg266
        refine wpo_not (b' := !rightOk x257) rfl rfl rfl ?_
        refine wpo_nil ?_
        refine wpf_cond rfl (fun h268 => ?_) (fun h268 => ?_)
        ·
         have h269 := nt_t h268
         refine wpf_seq_region ?_
         refine wpo_assign (v := .bool false) rfl rfl ?_
         refine wpo_nil ?_
         refine wpf_ret ?_
         refine blk_r ?_
         refine thn_r ?_
         refine thn_r ?_
         refine blk_r ?_
         refine thn_r ?_
         refine ⟨.bool false, res1 rfl rfl, ?_, hb267⟩
         exact congrArg Value.bool (th_r hx258 h269)
        ·
         have h270 := nt_f h268
         refine wpf_skip ?_
         refine blk_n ?_
         refine thn_n ?_
         refine wpf_region ?_
         refine wpo_move (v := .int .i64 (j : Int)) e252 rfl ?_
         refine wpo_add (c := (j : Int) + 1) rfl rfl (by omega) (by omega) (by omega) rfl ?_
         refine wpo_assign (v := .int .i64 ((j : Int) + 1)) rfl rfl ?_
         refine wpo_nil ?_
         refine thn_n ?_
         have k271 := (k254.grown0 hg266)
         exact ⟨m.t.slots.length - (j + 1), by omega, (j + 1), rfl, (by omega), (take_all_succ (p := rightOk) hb hx258 h270), rfl, e253, hb267, k271⟩
       ·
        have h272 := of_decide_eq_false h255
        refine wpf_exit ?_
        refine thn_e ?_
        refine thn_e ?_
        refine blk_e ?_
        refine thn_n ?_
        refine wpf_seq ?_
        refine wpf_seq_region_mid (fun f' w' => (f' 1 = .pointer (some ⟨B101, 0, none⟩) ∧ f' 114 = .bool ((((decide (m.t.kind = 2)) || (decide (m.t.kind = 3))) && (!(decide ((m.t.slots.length : Int) = 4)))) || ((!((decide (m.t.kind = 2)) || (decide (m.t.kind = 3)))) && (!(decide ((m.t.slots.length : Int) = 0)))))) ∧ w249.grownBy w' none) ?_ ?_
        ·
         refine wpo_fieldAddr (o' := 0) fo_45_0 e253 rfl rfl ?_
         refine wpo_load1 (v := .int .i64 m.t.kind) ot_3 rfl (k254.cell rfl) rfl ?_
         refine wpo_call (vs := [.int .i64 m.t.kind]) gf_66 (args_cons rfl args_nil) rfl (l3Slots_c m.t.kind _) ?_
         rintro _ w284 ⟨rfl, hg285⟩
         have hb286 := low0 hb250 hg285
         refine wpo_move (v := .bool ((decide (m.t.kind = 2)) || (decide (m.t.kind = 3)))) rfl rfl ?_
         rcases bcases ((decide (m.t.kind = 2)) || (decide (m.t.kind = 3))) with h287 | h287
         ·
          refine wpo_run rfl rfl rfl h287 ?_
          refine wpo_fieldAddr (o' := 5) fo_45_4 e253 rfl rfl ?_
          refine wpo_run rfl rfl rfl h287 ?_
          have k288 := (k254.grown0 hg285)
          refine wpo_load1 (v := .slice m.sa m.t.slots.length m.sc) ot_27 rfl (k288.cell rfl) rfl ?_
          refine wpo_run rfl rfl rfl h287 ?_
          refine wpo_len (by kernel_rfl) rfl rfl ?_
          refine wpo_run rfl rfl rfl h287 ?_
          refine wpo_neq (q := !(decide ((m.t.slots.length : Int) = 4))) rfl rfl rfl rfl ?_
          refine wpo_pickt (v := .bool (!(decide ((m.t.slots.length : Int) = 4)))) rfl h287 rfl rfl ?_
          refine wpo_move (v := .bool (!(decide ((m.t.slots.length : Int) = 4)))) rfl rfl ?_
          rcases bcases (!(decide ((m.t.slots.length : Int) = 4))) with h289 | h289
          ·
           have h290 := nt_t h289
           have h291 := of_decide_eq_false h290
           iterate 5 refine wpo_pass rfl rfl rfl h289 rfl ?_
           iterate 4 refine wpo_passu rfl rfl rfl rfl ?_
           refine wpo_pass rfl rfl rfl h289 rfl ?_
           refine wpo_pickt (v := .bool true) rfl h289 rfl rfl ?_
           exact wpo_nil ⟨⟨e253, (congrArg Value.bool (by first | (simp only [h148, h149, h150, h151, h152, h153, h154, h155, h156, h157, h216, h217, h218, h219, h220, h221, h230, h255, h287, h289, h290, b0, b1, b2, b3, b4, b5, b6, b7, b8, b9]; done) | simp [h148, h149, h150, h151, h152, h153, h154, h155, h156, h157, h216, h217, h218, h219, h220, h221, h230, h255, h287, h289, h290]))⟩, hg285⟩
          ·
           have h292 := nt_f h289
           have h293 := of_decide_eq_true h292
           refine wpo_run rfl rfl rfl h289 ?_
           refine wpo_fieldAddr (o' := 0) fo_45_0 e253 rfl rfl ?_
           refine wpo_run rfl rfl rfl h289 ?_
           refine wpo_load1 (v := .int .i64 m.t.kind) ot_3 rfl (k288.cell rfl) rfl ?_
           refine wpo_run rfl rfl rfl h289 ?_
           refine wpo_call (vs := [.int .i64 m.t.kind]) gf_66 (args_cons rfl args_nil) rfl (l3Slots_c m.t.kind _) ?_
           rintro _ w294 ⟨rfl, hg295⟩
           have hb296 := low0 hb286 hg295
           refine wpo_run rfl rfl rfl h289 ?_
           refine wpo_not (b' := !((decide (m.t.kind = 2)) || (decide (m.t.kind = 3)))) rfl rfl rfl ?_
           refine wpo_run rfl rfl rfl h289 ?_
           refine wpo_move (v := .bool (!((decide (m.t.kind = 2)) || (decide (m.t.kind = 3))))) rfl rfl ?_
           iterate 4 refine wpo_pass rfl rfl rfl (not_of_t h287) rfl ?_
           refine wpo_run rfl rfl rfl h289 ?_
           refine wpo_pickf (v := .bool false) rfl (not_of_t h287) rfl rfl ?_
           refine wpo_pickf (v := .bool false) rfl h289 rfl rfl ?_
           exact wpo_nil ⟨⟨e253, (congrArg Value.bool (by first | (simp only [h148, h149, h150, h151, h152, h153, h154, h155, h156, h157, h216, h217, h218, h219, h220, h221, h230, h255, h287, h289, h292, b0, b1, b2, b3, b4, b5, b6, b7, b8, b9]; done) | simp [h148, h149, h150, h151, h152, h153, h154, h155, h156, h157, h216, h217, h218, h219, h220, h221, h230, h255, h287, h289, h292]))⟩, (grown_trans hg285 hg295)⟩
         ·
          have h297 := or_l h287
          have h298 := of_decide_eq_false h297
          have h299 := or_r h287
          have h300 := of_decide_eq_false h299
          iterate 4 refine wpo_pass rfl rfl rfl h287 rfl ?_
          refine wpo_pickf (v := .bool false) rfl h287 rfl rfl ?_
          refine wpo_move (v := .bool false) rfl rfl ?_
          refine wpo_run rfl rfl rfl rfl ?_
          refine wpo_fieldAddr (o' := 0) fo_45_0 e253 rfl rfl ?_
          refine wpo_run rfl rfl rfl rfl ?_
          have k301 := (k254.grown0 hg285)
          refine wpo_load1 (v := .int .i64 m.t.kind) ot_3 rfl (k301.cell rfl) rfl ?_
          refine wpo_run rfl rfl rfl rfl ?_
          refine wpo_call (vs := [.int .i64 m.t.kind]) gf_66 (args_cons rfl args_nil) rfl (l3Slots_c m.t.kind _) ?_
          rintro _ w302 ⟨rfl, hg303⟩
          have hb304 := low0 hb286 hg303
          refine wpo_run rfl rfl rfl rfl ?_
          refine wpo_not (b' := !((decide (m.t.kind = 2)) || (decide (m.t.kind = 3)))) rfl rfl rfl ?_
          refine wpo_run rfl rfl rfl rfl ?_
          refine wpo_move (v := .bool (!((decide (m.t.kind = 2)) || (decide (m.t.kind = 3))))) rfl rfl ?_
          refine wpo_run rfl rfl rfl (not_of_f h287) ?_
          refine wpo_fieldAddr (o' := 5) fo_45_4 e253 rfl rfl ?_
          refine wpo_run rfl rfl rfl (not_of_f h287) ?_
          have k305 := (k301.grown0 hg303)
          refine wpo_load1 (v := .slice m.sa m.t.slots.length m.sc) ot_27 rfl (k305.cell rfl) rfl ?_
          refine wpo_run rfl rfl rfl (not_of_f h287) ?_
          refine wpo_len (by kernel_rfl) rfl rfl ?_
          refine wpo_run rfl rfl rfl (not_of_f h287) ?_
          refine wpo_neq (q := !(decide ((m.t.slots.length : Int) = 0))) rfl rfl rfl rfl ?_
          refine wpo_run rfl rfl rfl rfl ?_
          refine wpo_pickt (v := .bool (!(decide ((m.t.slots.length : Int) = 0)))) rfl (not_of_f h287) rfl rfl ?_
          refine wpo_pickf (v := .bool (!(decide ((m.t.slots.length : Int) = 0)))) rfl rfl rfl rfl ?_
          exact wpo_nil ⟨⟨e253, (congrArg Value.bool (by first | (simp only [h148, h149, h150, h151, h152, h153, h154, h155, h156, h157, h216, h217, h218, h219, h220, h221, h230, h255, h287, h297, h299, b0, b1, b2, b3, b4, b5, b6, b7, b8, b9]; done) | simp [h148, h149, h150, h151, h152, h153, h154, h155, h156, h157, h216, h217, h218, h219, h220, h221, h230, h255, h287, h297, h299]))⟩, (grown_trans hg285 hg303)⟩
        ·
         rintro f306 w307 ⟨⟨e308, e309⟩, hg310⟩
         have hb311 := low0 hb250 hg310
         refine wpf_cond e309 (fun h312 => ?_) (fun h312 => ?_)
         ·
          refine wpf_seq_region ?_
          refine wpo_assign (v := .bool false) rfl rfl ?_
          refine wpo_nil ?_
          refine wpf_ret ?_
          refine thn_r ?_
          refine ⟨.bool false, res1 rfl rfl, ?_, hb311⟩
          exact congrArg Value.bool (th_d h312)
         ·
          have h313 := or_l h312
          have h314 := or_r h312
          refine wpf_skip ?_
          refine thn_n ?_
          refine wpf_seq_region_mid (fun f' w' => (f' 2 = .bool (((decide (m.t.kind = 4)) || (decide ((m.t.queue.length : Int) = 0))) && (((decide (m.t.kind = 5)) && inR m.t.to 1 8) || ((!(decide (m.t.kind = 5))) && (decide (m.t.to = 0)))))) ∧ w307.grownBy w' none) ?_ ?_
          ·
           refine wpo_fieldAddr (o' := 0) fo_45_0 e308 rfl rfl ?_
           have k321 := (k254.grown0 hg310)
           refine wpo_load1 (v := .int .i64 m.t.kind) ot_3 rfl (k321.cell rfl) rfl ?_
           refine wpo_eql (q := decide (m.t.kind = 4)) rfl rfl rfl rfl ?_
           refine wpo_move (v := .bool (decide (m.t.kind = 4))) rfl rfl ?_
           rcases bcases (decide (m.t.kind = 4)) with h322 | h322
           ·
            have h323 := of_decide_eq_true h322
            iterate 4 refine wpo_pass rfl rfl rfl h322 rfl ?_
            refine wpo_pickt (v := .bool true) rfl h322 rfl rfl ?_
            refine wpo_move (v := .bool true) rfl rfl ?_
            refine wpo_run rfl rfl rfl rfl ?_
            refine wpo_fieldAddr (o' := 0) fo_45_0 e308 rfl rfl ?_
            refine wpo_run rfl rfl rfl rfl ?_
            refine wpo_load1 (v := .int .i64 m.t.kind) ot_3 rfl (k321.cell rfl) rfl ?_
            refine wpo_run rfl rfl rfl rfl ?_
            refine wpo_eql (q := decide (m.t.kind = 5)) rfl rfl rfl rfl ?_
            refine wpo_run rfl rfl rfl rfl ?_
            refine wpo_move (v := .bool (decide (m.t.kind = 5))) rfl rfl ?_
            rcases bcases (decide (m.t.kind = 5)) with h324 | h324
            ·
             have h325 := of_decide_eq_true h324
             refine wpo_run rfl rfl rfl h324 ?_
             refine wpo_fieldAddr (o' := 7) fo_45_6 e308 rfl rfl ?_
             refine wpo_run rfl rfl rfl h324 ?_
             refine wpo_load1 (v := .int .i64 m.t.to) ot_3 rfl (k321.cell rfl) rfl ?_
             refine wpo_run rfl rfl rfl h324 ?_
             refine wpo_call (vs := [.int .i64 m.t.to, .int .i64 1, .int .i64 8]) gf_85 (args_cons rfl (args_cons rfl (args_cons rfl args_nil))) rfl (l6In_c m.t.to 1 8 _) ?_
             rintro _ w326 ⟨rfl, hg327⟩
             have hb328 := low0 hb311 hg327
             refine wpo_run rfl rfl rfl rfl ?_
             refine wpo_pickt (v := .bool (inR m.t.to 1 8)) rfl h324 rfl rfl ?_
             refine wpo_run rfl rfl rfl rfl ?_
             refine wpo_move (v := .bool (inR m.t.to 1 8)) rfl rfl ?_
             rcases bcases (inR m.t.to 1 8) with h329 | h329
             ·
              iterate 4 refine wpo_pass rfl rfl rfl h329 rfl ?_
              iterate 3 refine wpo_passu rfl rfl rfl rfl ?_
              refine wpo_pass rfl rfl rfl h329 rfl ?_
              refine wpo_run rfl rfl rfl rfl ?_
              refine wpo_pickt (v := .bool true) rfl h329 rfl rfl ?_
              refine wpo_pickt (v := .bool true) rfl rfl rfl rfl ?_
              refine wpo_assign (v := .bool true) rfl rfl ?_
              exact wpo_nil ⟨(congrArg Value.bool (by first | (simp only [h148, h149, h150, h151, h152, h153, h154, h155, h156, h157, h216, h217, h218, h219, h220, h221, h230, h255, h312, h313, h314, h322, h324, h329, b0, b1, b2, b3, b4, b5, b6, b7, b8, b9]; done) | simp [h148, h149, h150, h151, h152, h153, h154, h155, h156, h157, h216, h217, h218, h219, h220, h221, h230, h255, h312, h313, h314, h322, h324, h329])), hg327⟩
             ·
              refine wpo_run rfl rfl rfl h329 ?_
              refine wpo_fieldAddr (o' := 0) fo_45_0 e308 rfl rfl ?_
              refine wpo_run rfl rfl rfl h329 ?_
              have k330 := (k321.grown0 hg327)
              refine wpo_load1 (v := .int .i64 m.t.kind) ot_3 rfl (k330.cell rfl) rfl ?_
              refine wpo_run rfl rfl rfl h329 ?_
              refine wpo_neq (q := !(decide (m.t.kind = 5))) rfl rfl rfl rfl ?_
              refine wpo_run rfl rfl rfl h329 ?_
              refine wpo_move (v := .bool (!(decide (m.t.kind = 5)))) rfl rfl ?_
              iterate 3 refine wpo_pass rfl rfl rfl (not_of_t h324) rfl ?_
              refine wpo_run rfl rfl rfl h329 ?_
              refine wpo_pickf (v := .bool false) rfl (not_of_t h324) rfl rfl ?_
              refine wpo_run rfl rfl rfl rfl ?_
              refine wpo_pickf (v := .bool false) rfl h329 rfl rfl ?_
              refine wpo_pickt (v := .bool false) rfl rfl rfl rfl ?_
              refine wpo_assign (v := .bool false) rfl rfl ?_
              exact wpo_nil ⟨(congrArg Value.bool (by first | (simp only [h148, h149, h150, h151, h152, h153, h154, h155, h156, h157, h216, h217, h218, h219, h220, h221, h230, h255, h312, h313, h314, h322, h324, h329, b0, b1, b2, b3, b4, b5, b6, b7, b8, b9]; done) | simp [h148, h149, h150, h151, h152, h153, h154, h155, h156, h157, h216, h217, h218, h219, h220, h221, h230, h255, h312, h313, h314, h322, h324, h329])), hg327⟩
            ·
             have h331 := of_decide_eq_false h324
             iterate 3 refine wpo_pass rfl rfl rfl h324 rfl ?_
             refine wpo_run rfl rfl rfl rfl ?_
             refine wpo_pickf (v := .bool false) rfl h324 rfl rfl ?_
             refine wpo_run rfl rfl rfl rfl ?_
             refine wpo_move (v := .bool false) rfl rfl ?_
             refine wpo_run rfl rfl rfl rfl ?_
             refine wpo_fieldAddr (o' := 0) fo_45_0 e308 rfl rfl ?_
             refine wpo_run rfl rfl rfl rfl ?_
             refine wpo_load1 (v := .int .i64 m.t.kind) ot_3 rfl (k321.cell rfl) rfl ?_
             refine wpo_run rfl rfl rfl rfl ?_
             refine wpo_neq (q := !(decide (m.t.kind = 5))) rfl rfl rfl rfl ?_
             refine wpo_run rfl rfl rfl rfl ?_
             refine wpo_move (v := .bool (!(decide (m.t.kind = 5)))) rfl rfl ?_
             refine wpo_run rfl rfl rfl (not_of_f h324) ?_
             refine wpo_fieldAddr (o' := 7) fo_45_6 e308 rfl rfl ?_
             refine wpo_run rfl rfl rfl (not_of_f h324) ?_
             refine wpo_load1 (v := .int .i64 m.t.to) ot_3 rfl (k321.cell rfl) rfl ?_
             refine wpo_run rfl rfl rfl (not_of_f h324) ?_
             refine wpo_eql (q := decide (m.t.to = 0)) rfl rfl rfl rfl ?_
             refine wpo_run rfl rfl rfl rfl ?_
             refine wpo_pickt (v := .bool (decide (m.t.to = 0))) rfl (not_of_f h324) rfl rfl ?_
             refine wpo_run rfl rfl rfl rfl ?_
             refine wpo_pickf (v := .bool (decide (m.t.to = 0))) rfl rfl rfl rfl ?_
             refine wpo_pickt (v := .bool (decide (m.t.to = 0))) rfl rfl rfl rfl ?_
             refine wpo_assign (v := .bool (decide (m.t.to = 0))) rfl rfl ?_
             exact wpo_nil ⟨(congrArg Value.bool (by first | (simp only [h148, h149, h150, h151, h152, h153, h154, h155, h156, h157, h216, h217, h218, h219, h220, h221, h230, h255, h312, h313, h314, h322, h324, b0, b1, b2, b3, b4, b5, b6, b7, b8, b9]; done) | simp [h148, h149, h150, h151, h152, h153, h154, h155, h156, h157, h216, h217, h218, h219, h220, h221, h230, h255, h312, h313, h314, h322, h324])), (World.grownBy.refl _ _)⟩
           ·
            have h332 := of_decide_eq_false h322
            refine wpo_run rfl rfl rfl h322 ?_
            refine wpo_fieldAddr (o' := 6) fo_45_5 e308 rfl rfl ?_
            refine wpo_run rfl rfl rfl h322 ?_
            refine wpo_load1 (v := .slice m.qa m.t.queue.length m.qc) ot_43 rfl (k321.cell rfl) rfl ?_
            refine wpo_run rfl rfl rfl h322 ?_
            refine wpo_len (by kernel_rfl) rfl rfl ?_
            refine wpo_run rfl rfl rfl h322 ?_
            refine wpo_eql (q := decide ((m.t.queue.length : Int) = 0)) rfl rfl rfl rfl ?_
            refine wpo_pickf (v := .bool (decide ((m.t.queue.length : Int) = 0))) rfl h322 rfl rfl ?_
            refine wpo_move (v := .bool (decide ((m.t.queue.length : Int) = 0))) rfl rfl ?_
            rcases bcases (decide ((m.t.queue.length : Int) = 0)) with h333 | h333
            ·
             have h334 := of_decide_eq_true h333
             refine wpo_run rfl rfl rfl h333 ?_
             refine wpo_fieldAddr (o' := 0) fo_45_0 e308 rfl rfl ?_
             refine wpo_run rfl rfl rfl h333 ?_
             refine wpo_load1 (v := .int .i64 m.t.kind) ot_3 rfl (k321.cell rfl) rfl ?_
             refine wpo_run rfl rfl rfl h333 ?_
             refine wpo_eql (q := decide (m.t.kind = 5)) rfl rfl rfl rfl ?_
             refine wpo_run rfl rfl rfl h333 ?_
             refine wpo_move (v := .bool (decide (m.t.kind = 5))) rfl rfl ?_
             rcases bcases (decide (m.t.kind = 5)) with h335 | h335
             ·
              have h336 := of_decide_eq_true h335
              refine wpo_run rfl rfl rfl h335 ?_
              refine wpo_fieldAddr (o' := 7) fo_45_6 e308 rfl rfl ?_
              refine wpo_run rfl rfl rfl h335 ?_
              refine wpo_load1 (v := .int .i64 m.t.to) ot_3 rfl (k321.cell rfl) rfl ?_
              refine wpo_run rfl rfl rfl h335 ?_
              refine wpo_call (vs := [.int .i64 m.t.to, .int .i64 1, .int .i64 8]) gf_85 (args_cons rfl (args_cons rfl (args_cons rfl args_nil))) rfl (l6In_c m.t.to 1 8 _) ?_
              rintro _ w337 ⟨rfl, hg338⟩
              have hb339 := low0 hb311 hg338
              refine wpo_run rfl rfl rfl h333 ?_
              refine wpo_pickt (v := .bool (inR m.t.to 1 8)) rfl h335 rfl rfl ?_
              refine wpo_run rfl rfl rfl h333 ?_
              refine wpo_move (v := .bool (inR m.t.to 1 8)) rfl rfl ?_
              rcases bcases (inR m.t.to 1 8) with h340 | h340
              ·
               iterate 4 refine wpo_pass rfl rfl rfl h340 rfl ?_
               iterate 3 refine wpo_passu rfl rfl rfl rfl ?_
               refine wpo_pass rfl rfl rfl h340 rfl ?_
               refine wpo_run rfl rfl rfl h333 ?_
               refine wpo_pickt (v := .bool true) rfl h340 rfl rfl ?_
               refine wpo_pickt (v := .bool true) rfl h333 rfl rfl ?_
               refine wpo_assign (v := .bool true) rfl rfl ?_
               exact wpo_nil ⟨(congrArg Value.bool (by first | (simp only [h148, h149, h150, h151, h152, h153, h154, h155, h156, h157, h216, h217, h218, h219, h220, h221, h230, h255, h312, h313, h314, h322, h333, h335, h340, b0, b1, b2, b3, b4, b5, b6, b7, b8, b9]; done) | simp [h148, h149, h150, h151, h152, h153, h154, h155, h156, h157, h216, h217, h218, h219, h220, h221, h230, h255, h312, h313, h314, h322, h333, h335, h340])), hg338⟩
              ·
               refine wpo_run rfl rfl rfl h340 ?_
               refine wpo_fieldAddr (o' := 0) fo_45_0 e308 rfl rfl ?_
               refine wpo_run rfl rfl rfl h340 ?_
               have k341 := (k321.grown0 hg338)
               refine wpo_load1 (v := .int .i64 m.t.kind) ot_3 rfl (k341.cell rfl) rfl ?_
               refine wpo_run rfl rfl rfl h340 ?_
               refine wpo_neq (q := !(decide (m.t.kind = 5))) rfl rfl rfl rfl ?_
               refine wpo_run rfl rfl rfl h340 ?_
               refine wpo_move (v := .bool (!(decide (m.t.kind = 5)))) rfl rfl ?_
               iterate 3 refine wpo_pass rfl rfl rfl (not_of_t h335) rfl ?_
               refine wpo_run rfl rfl rfl h340 ?_
               refine wpo_pickf (v := .bool false) rfl (not_of_t h335) rfl rfl ?_
               refine wpo_run rfl rfl rfl h333 ?_
               refine wpo_pickf (v := .bool false) rfl h340 rfl rfl ?_
               refine wpo_pickt (v := .bool false) rfl h333 rfl rfl ?_
               refine wpo_assign (v := .bool false) rfl rfl ?_
               exact wpo_nil ⟨(congrArg Value.bool (by first | (simp only [h148, h149, h150, h151, h152, h153, h154, h155, h156, h157, h216, h217, h218, h219, h220, h221, h230, h255, h312, h313, h314, h322, h333, h335, h340, b0, b1, b2, b3, b4, b5, b6, b7, b8, b9]; done) | simp [h148, h149, h150, h151, h152, h153, h154, h155, h156, h157, h216, h217, h218, h219, h220, h221, h230, h255, h312, h313, h314, h322, h333, h335, h340])), hg338⟩
             ·
              have h342 := of_decide_eq_false h335
              iterate 3 refine wpo_pass rfl rfl rfl h335 rfl ?_
              refine wpo_run rfl rfl rfl h333 ?_
              refine wpo_pickf (v := .bool false) rfl h335 rfl rfl ?_
              refine wpo_run rfl rfl rfl h333 ?_
              refine wpo_move (v := .bool false) rfl rfl ?_
              refine wpo_run rfl rfl rfl rfl ?_
              refine wpo_fieldAddr (o' := 0) fo_45_0 e308 rfl rfl ?_
              refine wpo_run rfl rfl rfl rfl ?_
              refine wpo_load1 (v := .int .i64 m.t.kind) ot_3 rfl (k321.cell rfl) rfl ?_
              refine wpo_run rfl rfl rfl rfl ?_
              refine wpo_neq (q := !(decide (m.t.kind = 5))) rfl rfl rfl rfl ?_
              refine wpo_run rfl rfl rfl rfl ?_
              refine wpo_move (v := .bool (!(decide (m.t.kind = 5)))) rfl rfl ?_
              refine wpo_run rfl rfl rfl (not_of_f h335) ?_
              refine wpo_fieldAddr (o' := 7) fo_45_6 e308 rfl rfl ?_
              refine wpo_run rfl rfl rfl (not_of_f h335) ?_
              refine wpo_load1 (v := .int .i64 m.t.to) ot_3 rfl (k321.cell rfl) rfl ?_
              refine wpo_run rfl rfl rfl (not_of_f h335) ?_
              refine wpo_eql (q := decide (m.t.to = 0)) rfl rfl rfl rfl ?_
              refine wpo_run rfl rfl rfl rfl ?_
              refine wpo_pickt (v := .bool (decide (m.t.to = 0))) rfl (not_of_f h335) rfl rfl ?_
              refine wpo_run rfl rfl rfl h333 ?_
              refine wpo_pickf (v := .bool (decide (m.t.to = 0))) rfl rfl rfl rfl ?_
              refine wpo_pickt (v := .bool (decide (m.t.to = 0))) rfl h333 rfl rfl ?_
              refine wpo_assign (v := .bool (decide (m.t.to = 0))) rfl rfl ?_
              exact wpo_nil ⟨(congrArg Value.bool (by first | (simp only [h148, h149, h150, h151, h152, h153, h154, h155, h156, h157, h216, h217, h218, h219, h220, h221, h230, h255, h312, h313, h314, h322, h333, h335, b0, b1, b2, b3, b4, b5, b6, b7, b8, b9]; done) | simp [h148, h149, h150, h151, h152, h153, h154, h155, h156, h157, h216, h217, h218, h219, h220, h221, h230, h255, h312, h313, h314, h322, h333, h335])), (World.grownBy.refl _ _)⟩
            ·
             have h343 := of_decide_eq_false h333
             iterate 4 refine wpo_pass rfl rfl rfl h333 rfl ?_
             iterate 3 refine wpo_passu rfl rfl rfl rfl ?_
             refine wpo_pass rfl rfl rfl h333 rfl ?_
             refine wpo_pass rfl rfl rfl h333 rfl ?_
             iterate 8 refine wpo_passu rfl rfl rfl rfl ?_
             refine wpo_pass rfl rfl rfl h333 rfl ?_
             refine wpo_pickf (v := .bool false) rfl h333 rfl rfl ?_
             refine wpo_assign (v := .bool false) rfl rfl ?_
             exact wpo_nil ⟨(congrArg Value.bool (by first | (simp only [h148, h149, h150, h151, h152, h153, h154, h155, h156, h157, h216, h217, h218, h219, h220, h221, h230, h255, h312, h313, h314, h322, h333, b0, b1, b2, b3, b4, b5, b6, b7, b8, b9]; done) | simp [h148, h149, h150, h151, h152, h153, h154, h155, h156, h157, h216, h217, h218, h219, h220, h221, h230, h255, h312, h313, h314, h322, h333])), (World.grownBy.refl _ _)⟩
          ·
           rintro f344 w345 ⟨e346, hg347⟩
           have hb348 := low0 hb311 hg347
           refine wpf_ret ?_
           refine ⟨.bool (((decide (m.t.kind = 4)) || (decide ((m.t.queue.length : Int) = 0))) && (((decide (m.t.kind = 5)) && inR m.t.to 1 8) || ((!(decide (m.t.kind = 5))) && (decide (m.t.to = 0))))), res1 rfl e346, ?_, hb348⟩
           exact congrArg Value.bool (th_e h148 h216 (all_of_take (p := numQ) ha (by omega)) (all_of_take (p := rightOk) hb (by omega)) h312)
theorem fo_50_0 : fieldOff Try.prog 50 0 = some 0 := by kernel_rfl
theorem fo_50_1 : fieldOff Try.prog 50 1 = some 1 := by kernel_rfl
theorem gf_26 : goFn Try.prog 26 = true := by kernel_rfl
theorem gf_67 : goFn Try.prog 67 = true := by kernel_rfl
theorem gf_76 : goFn Try.prog 76 = true := by kernel_rfl
theorem gf_77 : goFn Try.prog 77 = true := by kernel_rfl
theorem gf_78 : goFn Try.prog 78 = true := by kernel_rfl
theorem gf_79 : goFn Try.prog 79 = true := by kernel_rfl
theorem zt_40 : zeroTy Try.prog 40 = some (.agg #[.int .i64 0, .int .i64 0]) := by kernel_rfl
theorem zt_45 : zeroTy Try.prog 45 = some (.agg #[.int .i64 0, .int .i64 0, .int .i64 0, .int .i64 0, .int .i64 0, .slice none 0 0, .slice none 0 0, .int .i64 0]) := by kernel_rfl
theorem eqLabel_c (a b : Lab) (w : World) : CallsR Try.prog 76 #[.agg #[.int .i64 a.s, .int .i64 a.v], .agg #[.int .i64 b.s, .int .i64 b.v]] w (fun v w' => v = .bool (decide (a = b)) ∧ w.grownBy w' none) := by
 refine calls_of_wpf (n := 15) Try.func76 rfl Try.ntmps76 rfl ?_
 have hb0 := World.grownBy.refl w none
 refine wpf_seq_region ?_
 refine wpo_box (v := .agg #[.int .i64 a.s, .int .i64 a.v]) (cs := #[.int .i64 a.s, .int .i64 a.v]) rfl rfl rfl ?_
 intro B101 w102 hN103
 have hlB101 := hN_ge hN103 hb0
 have hb104 := low0 hb0 hN103.grw
 refine wpo_box (v := .agg #[.int .i64 b.s, .int .i64 b.v]) (cs := #[.int .i64 b.s, .int .i64 b.v]) rfl rfl rfl ?_
 intro B105 w106 hN107
 have hlB105 := hN_ge hN107 hb104
 have lt_B101_B105 := hN_gtl hN107 (hN103.blk).lt
 have hb108 := low0 hb104 hN107.grw
 refine wpo_assign (v := .bool false) rfl rfl ?_
 refine wpo_nil ?_
 refine wpf_seq ?_
 refine wpf_seq_region ?_
 refine wpo_fieldAddr (o' := 0) fo_40_0 rfl rfl rfl ?_
 have k109 := (hN103.blk.grown0 hN107.grw)
 refine wpo_load1 (v := .int .i64 a.s) ot_3 rfl (k109.cell rfl) rfl ?_
 refine wpo_fieldAddr (o' := 0) fo_40_0 rfl rfl rfl ?_
 refine wpo_load1 (v := .int .i64 b.s) ot_3 rfl (hN107.blk.cell rfl) rfl ?_
 refine wpo_neq (q := !(decide (a.s = b.s))) rfl rfl rfl rfl ?_
 refine wpo_nil ?_
 refine wpf_cond rfl (fun h110 => ?_) (fun h110 => ?_)
 ·
  have h111 := nt_t h110
  have h112 := of_decide_eq_false h111
  refine wpf_seq_region ?_
  refine wpo_assign (v := .bool false) rfl rfl ?_
  refine wpo_nil ?_
  refine wpf_ret ?_
  refine thn_r ?_
  refine ⟨.bool false, res1 rfl rfl, ?_, hb108⟩
  obtain ⟨a1, a2⟩ := a
  obtain ⟨b1, b2⟩ := b
  simp_all
 ·
  have h113 := nt_f h110
  have h114 := of_decide_eq_true h113
  refine wpf_skip ?_
  refine thn_n ?_
  refine wpf_seq ?_
  refine wpf_seq_region ?_
  refine wpo_fieldAddr (o' := 1) fo_40_1 rfl rfl rfl ?_
  refine wpo_load1 (v := .int .i64 a.v) ot_3 rfl (k109.cell rfl) rfl ?_
  refine wpo_fieldAddr (o' := 1) fo_40_1 rfl rfl rfl ?_
  refine wpo_load1 (v := .int .i64 b.v) ot_3 rfl (hN107.blk.cell rfl) rfl ?_
  refine wpo_neq (q := !(decide (a.v = b.v))) rfl rfl rfl rfl ?_
  refine wpo_nil ?_
  refine wpf_cond rfl (fun h115 => ?_) (fun h115 => ?_)
  ·
   have h116 := nt_t h115
   have h117 := of_decide_eq_false h116
   refine wpf_seq_region ?_
   refine wpo_assign (v := .bool false) rfl rfl ?_
   refine wpo_nil ?_
   refine wpf_ret ?_
   refine thn_r ?_
   refine ⟨.bool false, res1 rfl rfl, ?_, hb108⟩
   obtain ⟨a1, a2⟩ := a
   obtain ⟨b1, b2⟩ := b
   simp_all
  ·
   have h118 := nt_f h115
   have h119 := of_decide_eq_true h118
   refine wpf_skip ?_
   refine thn_n ?_
   refine wpf_seq_region ?_
   refine wpo_assign (v := .bool true) rfl rfl ?_
   refine wpo_nil ?_
   refine wpf_ret ?_
   refine ⟨.bool true, res1 rfl rfl, ?_, hb108⟩
   obtain ⟨a1, a2⟩ := a
   obtain ⟨b1, b2⟩ := b
   simp_all
theorem eqIntS_c (w : World) (xs ys : List Int) (a b : Option Addr) (c e : Nat) (hs : SlAt w a 1 (xs.map icell)) (ht : SlAt w b 1 (ys.map icell)) (hn : xs.length ≤ 1048576) (hm : ys.length ≤ 1048576) : CallsR Try.prog 77 #[.slice a xs.length c, .slice b ys.length e] w (fun v w' => v = .bool (decide (xs = ys)) ∧ w.grownBy w' none) := by
 refine calls_of_wpf (n := 26) Try.func77 rfl Try.ntmps77 rfl ?_
 have hb0 := World.grownBy.refl w none
 refine wpf_seq_region ?_
 refine wpo_assign (v := .bool false) rfl rfl ?_
 refine wpo_nil ?_
 refine wpf_seq ?_
 refine wpf_seq_region ?_
 refine wpo_move (v := .slice a xs.length c) rfl rfl ?_
 refine wpo_len (by kernel_rfl) rfl rfl ?_
 refine wpo_move (v := .slice b ys.length e) rfl rfl ?_
 refine wpo_len (by kernel_rfl) rfl rfl ?_
 refine wpo_neq (q := !(decide ((xs.length : Int) = (ys.length : Int)))) rfl rfl rfl rfl ?_
 refine wpo_nil ?_
 refine wpf_cond rfl (fun h101 => ?_) (fun h101 => ?_)
 ·
  have h102 := nt_t h101
  have h103 := of_decide_eq_false h102
  refine wpf_seq_region ?_
  refine wpo_assign (v := .bool false) rfl rfl ?_
  refine wpo_nil ?_
  refine wpf_ret ?_
  refine thn_r ?_
  refine ⟨.bool false, res1 rfl rfl, ?_, hb0⟩
  exact congrArg Value.bool (decide_eq_false (fun h => by have := congrArg List.length h; omega)).symm
 ·
  have h104 := nt_f h101
  have h105 := of_decide_eq_true h104
  refine wpf_skip ?_
  refine thn_n ?_
  refine wpf_seq ?_
  refine wpf_seq_region ?_
  refine wpo_assign (v := .int .i64 0) rfl rfl ?_
  refine wpo_nil ?_
  refine wpf_block ?_
  refine wpf_loopN (fun mm f' w' => ∃ (k : Nat), mm = xs.length - k ∧ k ≤ xs.length ∧ xs.take k = ys.take k ∧ f' 5 = .int .i64 (k : Int) ∧ f' 0 = .slice a xs.length c ∧ f' 1 = .slice b ys.length e ∧ w.grownBy w' none) (xs.length - 0) ⟨0, rfl, (Nat.zero_le _), rfl, rfl, rfl, rfl, hb0⟩ ?_
  rintro mm f106 w107 ⟨k, hm109, hk, ha, e110, e111, e112, hb108⟩
  refine wpf_seq ?_
  refine wpf_seq_region ?_
  refine wpo_move (v := .int .i64 (k : Int)) e110 rfl ?_
  refine wpo_move (v := .slice a xs.length c) e111 rfl ?_
  refine wpo_len (by kernel_rfl) rfl rfl ?_
  refine wpo_lss (q := decide ((k : Int) < (xs.length : Int))) rfl rfl rfl rfl ?_
  refine wpo_nil ?_
  refine wpf_cond rfl (fun h113 => ?_) (fun h113 => ?_)
  ·
   have h114 := of_decide_eq_true h113
   refine wpf_skip ?_
   refine thn_n ?_
   refine wpf_seq ?_
   refine wpf_block ?_
   refine wpf_seq ?_
   obtain ⟨x147, hx148⟩ := get_lt (l := xs) (i := k) (by omega)
   obtain ⟨b149, q150, o151, ha152, ho153, hr154⟩ := SlAt.at hs (map_get hx148)
   obtain ⟨x155, hx156⟩ := get_lt (l := ys) (i := k) (by omega)
   obtain ⟨b157, q158, o159, ha160, ho161, hr162⟩ := SlAt.at ht (map_get hx156)
   refine wpf_draw (m := 8) (vals := [(17, .slice a xs.length c), (18, .int .i64 (k : Int)), (19, .pointer (some ⟨b149, o151, none⟩)), (20, .int .i64 x147), (21, .slice b ys.length e), (22, .int .i64 (k : Int)), (23, .pointer (some ⟨b157, o159, none⟩)), (24, .int .i64 x155)]) (fun w' => w107.grownBy w' none) mixed_ (by kernel_rfl) (grown_drew _) ?_ ?_
   ·
    refine yll_cons rfl (fun w163 hi164 => ?_) ?_
    ·
     have hb165 := low0 hb108 hi164
     refine wpo_move (v := .slice a xs.length c) e111 rfl ?_
     exact wpo_nil ⟨rfl, hi164⟩
    refine yll_cons rfl (fun w166 hi167 => ?_) ?_
    ·
     have hb168 := low0 hb108 hi167
     refine wpo_move (v := .int .i64 (k : Int)) e110 rfl ?_
     exact wpo_nil ⟨rfl, hi167⟩
    refine yll_cons rfl (fun w169 hi170 => ?_) ?_
    ·
     have hb171 := low0 hb108 hi170
     refine wpo_indexE es_43 rfl rfl ha152 ho153 (by omega) (by omega) rfl ?_
     exact wpo_nil ⟨rfl, hi170⟩
    refine yll_cons rfl (fun w172 hi173 => ?_) ?_
    ·
     have hb174 := low0 hb108 hi173
     refine wpo_load1 (v := .int .i64 x147) ot_3 rfl ((range_low hr154 hb174) 0 _ rfl) rfl ?_
     exact wpo_nil ⟨rfl, hi173⟩
    refine yll_cons rfl (fun w175 hi176 => ?_) ?_
    ·
     have hb177 := low0 hb108 hi176
     refine wpo_move (v := .slice b ys.length e) e112 rfl ?_
     exact wpo_nil ⟨rfl, hi176⟩
    refine yll_cons rfl (fun w178 hi179 => ?_) ?_
    ·
     have hb180 := low0 hb108 hi179
     refine wpo_move (v := .int .i64 (k : Int)) e110 rfl ?_
     exact wpo_nil ⟨rfl, hi179⟩
    refine yll_cons rfl (fun w181 hi182 => ?_) ?_
    ·
     have hb183 := low0 hb108 hi182
     refine wpo_indexE es_43 rfl rfl ha160 ho161 (by omega) (by omega) rfl ?_
     exact wpo_nil ⟨rfl, hi182⟩
    refine yll_cons rfl (fun w184 hi185 => ?_) ?_
    ·
     have hb186 := low0 hb108 hi185
     refine wpo_load1 (v := .int .i64 x155) ot_3 rfl ((range_low hr162 hb186) 0 _ rfl) rfl ?_
     exact wpo_nil ⟨rfl, hi185⟩
    exact yll_nil
   ·
    intro w187 hi188
    have hb189 := low0 hb108 hi188
    refine wpo_neq (q := !(decide (x147 = x155))) rfl rfl rfl rfl ?_
    refine wpo_nil ?_
    refine thn_n ?_
    refine wpf_cond rfl (fun h190 => ?_) (fun h190 => ?_)
    ·
     have h191 := nt_t h190
     have h192 := of_decide_eq_false h191
     refine wpf_seq_region ?_
     refine wpo_assign (v := .bool false) rfl rfl ?_
     refine wpo_nil ?_
     refine wpf_ret ?_
     refine blk_r ?_
     refine thn_r ?_
     refine thn_r ?_
     refine blk_r ?_
     refine thn_r ?_
     refine ⟨.bool false, res1 rfl rfl, ?_, hb189⟩
     exact congrArg Value.bool (decide_eq_false (ne_of_at hx148 hx156 (of_decide_eq_false h191))).symm
    ·
     have h193 := nt_f h190
     have h194 := of_decide_eq_true h193
     refine wpf_skip ?_
     refine blk_n ?_
     refine thn_n ?_
     refine wpf_region ?_
     refine wpo_move (v := .int .i64 (k : Int)) e110 rfl ?_
     refine wpo_add (c := (k : Int) + 1) rfl rfl (by omega) (by omega) (by omega) rfl ?_
     refine wpo_assign (v := .int .i64 ((k : Int) + 1)) rfl rfl ?_
     refine wpo_nil ?_
     refine thn_n ?_
     exact ⟨xs.length - (k + 1), by omega, (k + 1), rfl, (by omega), (take_eq_succ ha hx148 hx156 (of_decide_eq_true h193)), rfl, e111, e112, hb189⟩
  ·
   have h195 := of_decide_eq_false h113
   refine wpf_exit ?_
   refine thn_e ?_
   refine thn_e ?_
   refine blk_e ?_
   refine thn_n ?_
   refine wpf_seq_region ?_
   refine wpo_assign (v := .bool true) rfl rfl ?_
   refine wpo_nil ?_
   refine wpf_ret ?_
   refine ⟨.bool true, res1 rfl rfl, ?_, hb108⟩
   exact congrArg Value.bool (decide_eq_true (eq_of_take ha (by omega) (by omega))).symm
theorem eqThing_c (m p : MTh) (w : World) (ha : ThAt w m) (hb : ThAt w p) (hla : m.t.slots.length ≤ 1048576 ∧ m.t.queue.length ≤ 1048576) (hlb : p.t.slots.length ≤ 1048576 ∧ p.t.queue.length ≤ 1048576) : CallsR Try.prog 28 #[.agg #[.int .i64 m.t.kind, .int .i64 m.t.lab.s, .int .i64 m.t.lab.v, .int .i64 m.t.ve, .int .i64 m.t.num, .slice m.sa m.t.slots.length m.sc, .slice m.qa m.t.queue.length m.qc, .int .i64 m.t.to], .agg #[.int .i64 p.t.kind, .int .i64 p.t.lab.s, .int .i64 p.t.lab.v, .int .i64 p.t.ve, .int .i64 p.t.num, .slice p.sa p.t.slots.length p.sc, .slice p.qa p.t.queue.length p.qc, .int .i64 p.t.to]] w (fun v w' => v = .bool (decide (m.t = p.t)) ∧ w.grownBy w' none) := by
 refine calls_of_wpf (n := 43) Try.func28 rfl Try.ntmps28 rfl ?_
 have hb0 := World.grownBy.refl w none
 refine wpf_seq_region ?_
 refine wpo_box (v := .agg #[.int .i64 m.t.kind, .int .i64 m.t.lab.s, .int .i64 m.t.lab.v, .int .i64 m.t.ve, .int .i64 m.t.num, .slice m.sa m.t.slots.length m.sc, .slice m.qa m.t.queue.length m.qc, .int .i64 m.t.to]) (cs := #[.int .i64 m.t.kind, .int .i64 m.t.lab.s, .int .i64 m.t.lab.v, .int .i64 m.t.ve, .int .i64 m.t.num, .slice m.sa m.t.slots.length m.sc, .slice m.qa m.t.queue.length m.qc, .int .i64 m.t.to]) rfl rfl rfl ?_
 intro B101 w102 hN103
 have hlB101 := hN_ge hN103 hb0
 have hb104 := low0 hb0 hN103.grw
 refine wpo_box (v := .agg #[.int .i64 p.t.kind, .int .i64 p.t.lab.s, .int .i64 p.t.lab.v, .int .i64 p.t.ve, .int .i64 p.t.num, .slice p.sa p.t.slots.length p.sc, .slice p.qa p.t.queue.length p.qc, .int .i64 p.t.to]) (cs := #[.int .i64 p.t.kind, .int .i64 p.t.lab.s, .int .i64 p.t.lab.v, .int .i64 p.t.ve, .int .i64 p.t.num, .slice p.sa p.t.slots.length p.sc, .slice p.qa p.t.queue.length p.qc, .int .i64 p.t.to]) rfl rfl rfl ?_
 intro B105 w106 hN107
 have hlB105 := hN_ge hN107 hb104
 have lt_B101_B105 := hN_gtl hN107 (hN103.blk).lt
 have hb108 := low0 hb104 hN107.grw
 refine wpo_assign (v := .bool false) rfl rfl ?_
 refine wpo_nil ?_
 refine wpf_seq ?_
 refine wpf_seq_region ?_
 refine wpo_fieldAddr (o' := 0) fo_45_0 rfl rfl rfl ?_
 have k109 := (hN103.blk.grown0 hN107.grw)
 refine wpo_load1 (v := .int .i64 m.t.kind) ot_3 rfl (k109.cell rfl) rfl ?_
 refine wpo_fieldAddr (o' := 0) fo_45_0 rfl rfl rfl ?_
 refine wpo_load1 (v := .int .i64 p.t.kind) ot_3 rfl (hN107.blk.cell rfl) rfl ?_
 refine wpo_neq (q := !(decide (m.t.kind = p.t.kind))) rfl rfl rfl rfl ?_
 refine wpo_nil ?_
 refine wpf_cond rfl (fun h110 => ?_) (fun h110 => ?_)
 ·
  have h111 := nt_t h110
  have h112 := of_decide_eq_false h111
  refine wpf_seq_region ?_
  refine wpo_assign (v := .bool false) rfl rfl ?_
  refine wpo_nil ?_
  refine wpf_ret ?_
  refine thn_r ?_
  refine ⟨.bool false, res1 rfl rfl, ?_, hb108⟩
  exact congrArg Value.bool (decide_eq_false (fun h => of_decide_eq_false h111 (congrArg Th.kind h))).symm
 ·
  have h113 := nt_f h110
  have h114 := of_decide_eq_true h113
  refine wpf_skip ?_
  refine thn_n ?_
  refine wpf_seq ?_
  refine wpf_seq_region ?_
  refine wpo_fieldAddr (o' := 1) fo_45_1 rfl rfl rfl ?_
  refine wpo_loadn (vs := [.int .i64 m.t.lab.s, .int .i64 m.t.lab.v]) rt_40 rfl rfl (k109.rangeL 1 2 rfl) rfl ?_
  refine wpo_fieldAddr (o' := 1) fo_45_1 rfl rfl rfl ?_
  refine wpo_loadn (vs := [.int .i64 p.t.lab.s, .int .i64 p.t.lab.v]) rt_40 rfl rfl (hN107.blk.rangeL 1 2 rfl) rfl ?_
  refine wpo_call (vs := [.agg #[.int .i64 m.t.lab.s, .int .i64 m.t.lab.v], .agg #[.int .i64 p.t.lab.s, .int .i64 p.t.lab.v]]) gf_76 (args_cons rfl (args_cons rfl args_nil)) rfl (eqLabel_c m.t.lab p.t.lab _) ?_
  rintro _ w115 ⟨rfl, hg116⟩
  have hb117 := low0 hb108 hg116
  refine wpo_not (b' := !(decide (m.t.lab = p.t.lab))) rfl rfl rfl ?_
  refine wpo_nil ?_
  refine wpf_cond rfl (fun h118 => ?_) (fun h118 => ?_)
  ·
   have h119 := nt_t h118
   have h120 := of_decide_eq_false h119
   refine wpf_seq_region ?_
   refine wpo_assign (v := .bool false) rfl rfl ?_
   refine wpo_nil ?_
   refine wpf_ret ?_
   refine thn_r ?_
   refine ⟨.bool false, res1 rfl rfl, ?_, hb117⟩
   exact congrArg Value.bool (decide_eq_false (fun h => of_decide_eq_false h119 (congrArg Th.lab h))).symm
  ·
   have h121 := nt_f h118
   have h122 := of_decide_eq_true h121
   refine wpf_skip ?_
   refine thn_n ?_
   refine wpf_seq ?_
   refine wpf_seq_region ?_
   refine wpo_fieldAddr (o' := 3) fo_45_2 rfl rfl rfl ?_
   have k123 := (k109.grown0 hg116)
   refine wpo_load1 (v := .int .i64 m.t.ve) ot_3 rfl (k123.cell rfl) rfl ?_
   refine wpo_fieldAddr (o' := 3) fo_45_2 rfl rfl rfl ?_
   have k124 := (hN107.blk.grown0 hg116)
   refine wpo_load1 (v := .int .i64 p.t.ve) ot_3 rfl (k124.cell rfl) rfl ?_
   refine wpo_neq (q := !(decide (m.t.ve = p.t.ve))) rfl rfl rfl rfl ?_
   refine wpo_nil ?_
   refine wpf_cond rfl (fun h125 => ?_) (fun h125 => ?_)
   ·
    have h126 := nt_t h125
    have h127 := of_decide_eq_false h126
    refine wpf_seq_region ?_
    refine wpo_assign (v := .bool false) rfl rfl ?_
    refine wpo_nil ?_
    refine wpf_ret ?_
    refine thn_r ?_
    refine ⟨.bool false, res1 rfl rfl, ?_, hb117⟩
    exact congrArg Value.bool (decide_eq_false (fun h => of_decide_eq_false h126 (congrArg Th.ve h))).symm
   ·
    have h128 := nt_f h125
    have h129 := of_decide_eq_true h128
    refine wpf_skip ?_
    refine thn_n ?_
    refine wpf_seq ?_
    refine wpf_seq_region ?_
    refine wpo_fieldAddr (o' := 4) fo_45_3 rfl rfl rfl ?_
    refine wpo_load1 (v := .int .i64 m.t.num) ot_3 rfl (k123.cell rfl) rfl ?_
    refine wpo_fieldAddr (o' := 4) fo_45_3 rfl rfl rfl ?_
    refine wpo_load1 (v := .int .i64 p.t.num) ot_3 rfl (k124.cell rfl) rfl ?_
    refine wpo_neq (q := !(decide (m.t.num = p.t.num))) rfl rfl rfl rfl ?_
    refine wpo_nil ?_
    refine wpf_cond rfl (fun h130 => ?_) (fun h130 => ?_)
    ·
     have h131 := nt_t h130
     have h132 := of_decide_eq_false h131
     refine wpf_seq_region ?_
     refine wpo_assign (v := .bool false) rfl rfl ?_
     refine wpo_nil ?_
     refine wpf_ret ?_
     refine thn_r ?_
     refine ⟨.bool false, res1 rfl rfl, ?_, hb117⟩
     exact congrArg Value.bool (decide_eq_false (fun h => of_decide_eq_false h131 (congrArg Th.num h))).symm
    ·
     have h133 := nt_f h130
     have h134 := of_decide_eq_true h133
     refine wpf_skip ?_
     refine thn_n ?_
     refine wpf_seq ?_
     refine wpf_seq_region ?_
     refine wpo_fieldAddr (o' := 5) fo_45_4 rfl rfl rfl ?_
     refine wpo_load1 (v := .slice m.sa m.t.slots.length m.sc) ot_27 rfl (k123.cell rfl) rfl ?_
     refine wpo_fieldAddr (o' := 5) fo_45_4 rfl rfl rfl ?_
     refine wpo_load1 (v := .slice p.sa p.t.slots.length p.sc) ot_27 rfl (k124.cell rfl) rfl ?_
     refine wpo_call (vs := [.slice m.sa m.t.slots.length m.sc, .slice p.sa p.t.slots.length p.sc]) gf_18 (args_cons rfl (args_cons rfl args_nil)) rfl (eqRightS_c _ m.t.slots p.t.slots _ _ _ _ (SlAt.low ha.1 hb117) (SlAt.low hb.1 hb117) (by first | omega | exact Nat.le_of_ble_eq_true rfl | (simp only [List.length_nil, List.length_cons, List.length_append, List.length_replicate]; omega)) (by first | omega | exact Nat.le_of_ble_eq_true rfl | (simp only [List.length_nil, List.length_cons, List.length_append, List.length_replicate]; omega))) ?_
     rintro _ w135 ⟨rfl, hg136⟩
     have hb137 := low0 hb117 hg136
     refine wpo_not (b' := !(decide (m.t.slots = p.t.slots))) rfl rfl rfl ?_
     refine wpo_nil ?_
     refine wpf_cond rfl (fun h138 => ?_) (fun h138 => ?_)
     ·
      have h139 := nt_t h138
      have h140 := of_decide_eq_false h139
      refine wpf_seq_region ?_
      refine wpo_assign (v := .bool false) rfl rfl ?_
      refine wpo_nil ?_
      refine wpf_ret ?_
      refine thn_r ?_
      refine ⟨.bool false, res1 rfl rfl, ?_, hb137⟩
      exact congrArg Value.bool (decide_eq_false (fun h => of_decide_eq_false h139 (congrArg Th.slots h))).symm
     ·
      have h141 := nt_f h138
      have h142 := of_decide_eq_true h141
      refine wpf_skip ?_
      refine thn_n ?_
      refine wpf_seq ?_
      refine wpf_seq_region ?_
      refine wpo_fieldAddr (o' := 6) fo_45_5 rfl rfl rfl ?_
      have k143 := (k123.grown0 hg136)
      refine wpo_load1 (v := .slice m.qa m.t.queue.length m.qc) ot_43 rfl (k143.cell rfl) rfl ?_
      refine wpo_fieldAddr (o' := 6) fo_45_5 rfl rfl rfl ?_
      have k144 := (k124.grown0 hg136)
      refine wpo_load1 (v := .slice p.qa p.t.queue.length p.qc) ot_43 rfl (k144.cell rfl) rfl ?_
      refine wpo_call (vs := [.slice m.qa m.t.queue.length m.qc, .slice p.qa p.t.queue.length p.qc]) gf_77 (args_cons rfl (args_cons rfl args_nil)) rfl (eqIntS_c _ m.t.queue p.t.queue _ _ _ _ (SlAt.low ha.2.1 hb137) (SlAt.low hb.2.1 hb137) (by first | omega | exact Nat.le_of_ble_eq_true rfl | (simp only [List.length_nil, List.length_cons, List.length_append, List.length_replicate]; omega)) (by first | omega | exact Nat.le_of_ble_eq_true rfl | (simp only [List.length_nil, List.length_cons, List.length_append, List.length_replicate]; omega))) ?_
      rintro _ w145 ⟨rfl, hg146⟩
      have hb147 := low0 hb137 hg146
      refine wpo_not (b' := !(decide (m.t.queue = p.t.queue))) rfl rfl rfl ?_
      refine wpo_nil ?_
      refine wpf_cond rfl (fun h148 => ?_) (fun h148 => ?_)
      ·
       have h149 := nt_t h148
       have h150 := of_decide_eq_false h149
       refine wpf_seq_region ?_
       refine wpo_assign (v := .bool false) rfl rfl ?_
       refine wpo_nil ?_
       refine wpf_ret ?_
       refine thn_r ?_
       refine ⟨.bool false, res1 rfl rfl, ?_, hb147⟩
       exact congrArg Value.bool (decide_eq_false (fun h => of_decide_eq_false h149 (congrArg Th.queue h))).symm
      ·
       have h151 := nt_f h148
       have h152 := of_decide_eq_true h151
       refine wpf_skip ?_
       refine thn_n ?_
       refine wpf_seq ?_
       refine wpf_seq_region ?_
       refine wpo_fieldAddr (o' := 7) fo_45_6 rfl rfl rfl ?_
       have k153 := (k143.grown0 hg146)
       refine wpo_load1 (v := .int .i64 m.t.to) ot_3 rfl (k153.cell rfl) rfl ?_
       refine wpo_fieldAddr (o' := 7) fo_45_6 rfl rfl rfl ?_
       have k154 := (k144.grown0 hg146)
       refine wpo_load1 (v := .int .i64 p.t.to) ot_3 rfl (k154.cell rfl) rfl ?_
       refine wpo_neq (q := !(decide (m.t.to = p.t.to))) rfl rfl rfl rfl ?_
       refine wpo_nil ?_
       refine wpf_cond rfl (fun h155 => ?_) (fun h155 => ?_)
       ·
        have h156 := nt_t h155
        have h157 := of_decide_eq_false h156
        refine wpf_seq_region ?_
        refine wpo_assign (v := .bool false) rfl rfl ?_
        refine wpo_nil ?_
        refine wpf_ret ?_
        refine thn_r ?_
        refine ⟨.bool false, res1 rfl rfl, ?_, hb147⟩
        exact congrArg Value.bool (decide_eq_false (fun h => of_decide_eq_false h156 (congrArg Th.to h))).symm
       ·
        have h158 := nt_f h155
        have h159 := of_decide_eq_true h158
        refine wpf_skip ?_
        refine thn_n ?_
        refine wpf_seq_region ?_
        refine wpo_assign (v := .bool true) rfl rfl ?_
        refine wpo_nil ?_
        refine wpf_ret ?_
        refine ⟨.bool true, res1 rfl rfl, ?_, hb147⟩
        exact congrArg Value.bool (decide_eq_true (th_ext (of_decide_eq_true h113) (of_decide_eq_true h121) (of_decide_eq_true h128) (of_decide_eq_true h133) (of_decide_eq_true h141) (of_decide_eq_true h151) (of_decide_eq_true h158))).symm
theorem toLabel_c (l : Lab) (w : World) : CallsR Try.prog 27 #[.agg #[.int .i64 l.s, .int .i64 l.v]] w (fun v w' => v = .agg #[.int .i64 l.s, .int .i64 l.v] ∧ w.grownBy w' none) := by
 refine calls_of_wpf (n := 11) Try.func27 rfl Try.ntmps27 rfl ?_
 have hb0 := World.grownBy.refl w none
 refine wpf_seq_region ?_
 refine wpo_box (v := .agg #[.int .i64 l.s, .int .i64 l.v]) (cs := #[.int .i64 l.s, .int .i64 l.v]) rfl rfl rfl ?_
 intro B101 w102 hN103
 have hlB101 := hN_ge hN103 hb0
 have hb104 := low0 hb0 hN103.grw
 refine wpo_alloc (cs := #[.int .i64 0, .int .i64 0]) zt_40 rfl rfl ?_
 intro B105 w106 hN107
 have hlB105 := hN_ge hN107 hb104
 have lt_B101_B105 := hN_gtl hN107 (hN103.blk).lt
 have hb108 := low0 hb104 hN107.grw
 refine wpo_nil ?_
 refine wpf_seq_region ?_
 refine wpo_alloc (cs := #[.int .i64 0, .int .i64 0]) zt_40 rfl rfl ?_
 intro B109 w110 hN111
 have hlB109 := hN_ge hN111 hb108
 have k112 := (hN103.blk.grown0 hN107.grw)
 have lt_B101_B109 := hN_gtl hN111 (k112).lt
 have lt_B105_B109 := hN_gtl hN111 (hN107.blk).lt
 have hb113 := low0 hb108 hN111.grw
 refine wpo_nil ?_
 refine wpf_seq_region ?_
 refine wpo_fieldAddr (o' := 0) fo_50_0 rfl rfl rfl ?_
 have k114 := (k112.grown0 hN111.grw)
 refine wpo_load1 (v := .int .i64 l.s) ot_3 rfl (k114.cell rfl) rfl ?_
 refine wpo_fieldAddr (o' := 0) fo_40_0 rfl rfl rfl ?_
 refine wpo_store1 (v := .int .i64 l.s) (cs' := #[.int .i64 l.s, .int .i64 0]) ot_3 rfl rfl rfl hN111.blk (Nat.le_of_ble_eq_true rfl) rfl ?_
 intro w115 hS116
 have hb117 := low1 hb113 hS116.grw (by omega)
 refine wpo_nil ?_
 refine wpf_seq_region ?_
 refine wpo_fieldAddr (o' := 1) fo_50_1 rfl rfl rfl ?_
 have k118 := (k114.grown hS116.grw (some_ne (by omega)))
 refine wpo_load1 (v := .int .i64 l.v) ot_3 rfl (k118.cell rfl) rfl ?_
 refine wpo_fieldAddr (o' := 1) fo_40_1 rfl rfl rfl ?_
 refine wpo_store1 (v := .int .i64 l.v) (cs' := #[.int .i64 l.s, .int .i64 l.v]) ot_3 rfl rfl rfl hS116.blk (Nat.le_of_ble_eq_true rfl) rfl ?_
 intro w119 hS120
 have hb121 := low1 hb117 hS120.grw (by omega)
 refine wpo_nil ?_
 refine wpf_seq_region ?_
 refine wpo_loadn (vs := [.int .i64 l.s, .int .i64 l.v]) rt_40 rfl rfl (hS120.blk.rangeL 0 2 rfl) rfl ?_
 have k122 := (((hN107.blk.grown0 hN111.grw).grown hS116.grw (some_ne (by omega))).grown hS120.grw (some_ne (by omega)))
 refine wpo_storen (vs := [.int .i64 l.s, .int .i64 l.v]) (cs' := #[.int .i64 l.s, .int .i64 l.v]) rt_40 rfl rfl rfl (by simp [Value.oneCell']) k122 (Nat.le_of_ble_eq_true rfl) rfl ?_
 intro w123 hS124
 have hb125 := low1 hb121 hS124.grw (by omega)
 refine wpo_nil ?_
 refine wpf_ret ?_
 refine ⟨.agg #[.int .i64 l.s, .int .i64 l.v], resC rfl (resCell_mk (vs := [.int .i64 l.s, .int .i64 l.v]) rt_40 rfl rfl (hS124.blk.rangeL 0 2 rfl)), ?_, hb125⟩
 rfl
theorem markRightS_c (n : Int) (hn0 : 0 ≤ n ∧ n ≤ 1125899906842624) (S sc : Nat) (xs : List Rt) (w : World) (hS : Dw.Own w S 29 5 sc xs.length (xs.flatMap Rt.cells)) (hl : xs.length ≤ 1048576) : CallsR Try.prog 78 #[.slice (some ⟨S, 0, none⟩) xs.length sc, .int .i64 n] w (fun v w' => v = .int .i64 (n + 5 * (xs.length : Int)) ∧ Dw.Own w' S 29 5 sc ((List.range xs.length).map (fun i : Nat => mkRt (n + 5 * (i : Int)))).length (((List.range xs.length).map (fun i : Nat => mkRt (n + 5 * (i : Int)))).flatMap Rt.cells) ∧ w.grownBy w' (some S)) := by
 refine calls_of_wpf (n := 54) Try.func78 rfl Try.ntmps78 rfl ?_
 have hb0 := World.grownBy.refl w (some S)
 have hSlt := hS.lt
 refine wpf_seq_region ?_
 refine wpo_assign (v := .int .i64 0) rfl rfl ?_
 refine wpo_nil ?_
 refine wpf_seq ?_
 refine wpf_seq_region ?_
 refine wpo_assign (v := .int .i64 0) rfl rfl ?_
 refine wpo_nil ?_
 refine wpf_block ?_
 refine wpf_loopN (fun mm f' w' => ∃ (k : Nat), mm = xs.length - k ∧ k ≤ xs.length ∧ (markR n xs k).length = xs.length ∧ f' 1 = .int .i64 (n + 5 * (k : Int)) ∧ f' 5 = .int .i64 (k : Int) ∧ f' 0 = .slice (some ⟨S, 0, none⟩) xs.length sc ∧ f' 4 = .int .i64 0 ∧ w.grownBy w' (some S) ∧ Dw.Own w' S 29 5 sc (markR n xs k).length ((markR n xs k).flatMap Rt.cells)) (xs.length - 0) ⟨0, rfl, (Nat.zero_le _), (by rw [markR_zero]), (congrArg (Value.int .i64) (by omega)), rfl, rfl, rfl, hb0, (by rw [markR_zero]; exact hS)⟩ ?_
 rintro mm f101 w102 ⟨k, hm104, hk, hkl, e105, e106, e107, e108, hb103, k109⟩
 refine wpf_seq ?_
 refine wpf_seq_region ?_
 refine wpo_move (v := .int .i64 (k : Int)) e106 rfl ?_
 refine wpo_move (v := .slice (some ⟨S, 0, none⟩) xs.length sc) e107 rfl ?_
 refine wpo_len (by kernel_rfl) rfl rfl ?_
 refine wpo_lss (q := decide ((k : Int) < (xs.length : Int))) rfl rfl rfl rfl ?_
 refine wpo_nil ?_
 refine wpf_cond rfl (fun h110 => ?_) (fun h110 => ?_)
 ·
  have h111 := of_decide_eq_true h110
  refine wpf_skip ?_
  refine thn_n ?_
  refine wpf_seq ?_
  refine wpf_block ?_
  refine wpf_seq_region ?_
  refine wpo_move (v := .slice (some ⟨S, 0, none⟩) xs.length sc) e107 rfl ?_
  refine wpo_move (v := .int .i64 (k : Int)) e106 rfl ?_
  refine wpo_move (v := .int .i64 (n + 5 * (k : Int))) e105 rfl ?_
  refine wpo_indexAddr (o' := k * 5) es_27 rfl rfl (by omega) (by omega) (by omega) rfl ?_
  refine wpo_fieldAddr (o' := k * 5) fo_29_0 rfl rfl rfl ?_
  obtain ⟨x115, hx116⟩ := get_lt (l := markR n xs k) (i := k) (by omega)
  refine wpo_store1O (g := Rt.cells) (j := 0) (z := x115) (z' := ⟨n + 5 * (k : Int), x115.ve, x115.rd, x115.wr, x115.wk⟩) (v := .int .i64 (n + 5 * (k : Int))) ot_3 rfl rfl rfl wide_rt k109 hx116 (by omega) rfl rfl ?_
  intro w112 hO113 hg114
  have hb117 := grown_trans hb103 hg114
  refine wpo_nil ?_
  refine wpf_seq_region ?_
  refine wpo_move (v := .int .i64 (n + 5 * (k : Int))) e105 rfl ?_
  refine wpo_add (c := n + 5 * (k : Int) + 1) rfl rfl (by omega) (by omega) (by omega) rfl ?_
  refine wpo_assign (v := .int .i64 (n + 5 * (k : Int) + 1)) rfl rfl ?_
  refine wpo_nil ?_
  refine wpf_seq_region ?_
  refine wpo_move (v := .slice (some ⟨S, 0, none⟩) xs.length sc) e107 rfl ?_
  refine wpo_move (v := .int .i64 (k : Int)) e106 rfl ?_
  refine wpo_move (v := .int .i64 (n + 5 * (k : Int) + 1)) rfl rfl ?_
  refine wpo_indexAddr (o' := k * 5) es_27 rfl rfl (by omega) (by omega) (by omega) rfl ?_
  refine wpo_fieldAddr (o' := k * 5 + 1) fo_29_1 rfl rfl rfl ?_
  refine wpo_store1O (g := Rt.cells) (j := 1) (z := ⟨n + 5 * (k : Int), x115.ve, x115.rd, x115.wr, x115.wk⟩) (z' := ⟨n + 5 * (k : Int), n + 5 * (k : Int) + 1, x115.rd, x115.wr, x115.wk⟩) (v := .int .i64 (n + 5 * (k : Int) + 1)) ot_3 rfl rfl rfl wide_rt hO113 (get_set hx116) (by omega) rfl rfl ?_
  intro w118 hO119 hg120
  have hb121 := grown_trans hb117 hg120
  refine wpo_nil ?_
  refine wpf_seq_region ?_
  refine wpo_move (v := .int .i64 (n + 5 * (k : Int) + 1)) rfl rfl ?_
  refine wpo_add (c := n + 5 * (k : Int) + 1 + 1) rfl rfl (by omega) (by omega) (by omega) rfl ?_
  refine wpo_assign (v := .int .i64 (n + 5 * (k : Int) + 1 + 1)) rfl rfl ?_
  refine wpo_nil ?_
  refine wpf_seq_region ?_
  refine wpo_move (v := .slice (some ⟨S, 0, none⟩) xs.length sc) e107 rfl ?_
  refine wpo_move (v := .int .i64 (k : Int)) e106 rfl ?_
  refine wpo_move (v := .int .i64 (n + 5 * (k : Int) + 1 + 1)) rfl rfl ?_
  refine wpo_rem (c := (n + 5 * (k : Int) + 1 + 1) % 3) rfl rfl (by omega) (by omega) (by omega) rfl rfl ?_
  refine wpo_eql (q := decide ((n + 5 * (k : Int) + 1 + 1) % 3 = 0)) rfl rfl rfl rfl ?_
  refine wpo_indexAddr (o' := k * 5) es_27 rfl rfl (by omega) (by omega) (by omega) rfl ?_
  refine wpo_fieldAddr (o' := k * 5 + 2) fo_29_2 rfl rfl rfl ?_
  refine wpo_store1O (g := Rt.cells) (j := 2) (z := ⟨n + 5 * (k : Int), n + 5 * (k : Int) + 1, x115.rd, x115.wr, x115.wk⟩) (z' := ⟨n + 5 * (k : Int), n + 5 * (k : Int) + 1, decide ((n + 5 * (k : Int) + 1 + 1) % 3 = 0), x115.wr, x115.wk⟩) (v := .bool (decide ((n + 5 * (k : Int) + 1 + 1) % 3 = 0))) ot_4 rfl rfl rfl wide_rt (Own.set2 hO119) (get_set hx116) (by omega) rfl rfl ?_
  intro w122 hO123 hg124
  have hb125 := grown_trans hb121 hg124
  refine wpo_nil ?_
  refine wpf_seq_region ?_
  refine wpo_move (v := .int .i64 (n + 5 * (k : Int) + 1 + 1)) rfl rfl ?_
  refine wpo_add (c := n + 5 * (k : Int) + 1 + 1 + 1) rfl rfl (by omega) (by omega) (by omega) rfl ?_
  refine wpo_assign (v := .int .i64 (n + 5 * (k : Int) + 1 + 1 + 1)) rfl rfl ?_
  refine wpo_nil ?_
  refine wpf_seq_region ?_
  refine wpo_move (v := .slice (some ⟨S, 0, none⟩) xs.length sc) e107 rfl ?_
  refine wpo_move (v := .int .i64 (k : Int)) e106 rfl ?_
  refine wpo_move (v := .int .i64 (n + 5 * (k : Int) + 1 + 1 + 1)) rfl rfl ?_
  refine wpo_rem (c := (n + 5 * (k : Int) + 1 + 1 + 1) % 3) rfl rfl (by omega) (by omega) (by omega) rfl rfl ?_
  refine wpo_eql (q := decide ((n + 5 * (k : Int) + 1 + 1 + 1) % 3 = 0)) rfl rfl rfl rfl ?_
  refine wpo_indexAddr (o' := k * 5) es_27 rfl rfl (by omega) (by omega) (by omega) rfl ?_
  refine wpo_fieldAddr (o' := k * 5 + 3) fo_29_3 rfl rfl rfl ?_
  refine wpo_store1O (g := Rt.cells) (j := 3) (z := ⟨n + 5 * (k : Int), n + 5 * (k : Int) + 1, decide ((n + 5 * (k : Int) + 1 + 1) % 3 = 0), x115.wr, x115.wk⟩) (z' := ⟨n + 5 * (k : Int), n + 5 * (k : Int) + 1, decide ((n + 5 * (k : Int) + 1 + 1) % 3 = 0), decide ((n + 5 * (k : Int) + 1 + 1 + 1) % 3 = 0), x115.wk⟩) (v := .bool (decide ((n + 5 * (k : Int) + 1 + 1 + 1) % 3 = 0))) ot_4 rfl rfl rfl wide_rt (Own.set2 hO123) (get_set hx116) (by omega) rfl rfl ?_
  intro w126 hO127 hg128
  have hb129 := grown_trans hb125 hg128
  refine wpo_nil ?_
  refine wpf_seq_region ?_
  refine wpo_move (v := .int .i64 (n + 5 * (k : Int) + 1 + 1 + 1)) rfl rfl ?_
  refine wpo_add (c := n + 5 * (k : Int) + 1 + 1 + 1 + 1) rfl rfl (by omega) (by omega) (by omega) rfl ?_
  refine wpo_assign (v := .int .i64 (n + 5 * (k : Int) + 1 + 1 + 1 + 1)) rfl rfl ?_
  refine wpo_nil ?_
  refine wpf_seq_region ?_
  refine wpo_move (v := .slice (some ⟨S, 0, none⟩) xs.length sc) e107 rfl ?_
  refine wpo_move (v := .int .i64 (k : Int)) e106 rfl ?_
  refine wpo_move (v := .int .i64 (n + 5 * (k : Int) + 1 + 1 + 1 + 1)) rfl rfl ?_
  refine wpo_rem (c := (n + 5 * (k : Int) + 1 + 1 + 1 + 1) % 3) rfl rfl (by omega) (by omega) (by omega) rfl rfl ?_
  refine wpo_eql (q := decide ((n + 5 * (k : Int) + 1 + 1 + 1 + 1) % 3 = 0)) rfl rfl rfl rfl ?_
  refine wpo_indexAddr (o' := k * 5) es_27 rfl rfl (by omega) (by omega) (by omega) rfl ?_
  refine wpo_fieldAddr (o' := k * 5 + 4) fo_29_4 rfl rfl rfl ?_
  refine wpo_store1O (g := Rt.cells) (j := 4) (z := ⟨n + 5 * (k : Int), n + 5 * (k : Int) + 1, decide ((n + 5 * (k : Int) + 1 + 1) % 3 = 0), decide ((n + 5 * (k : Int) + 1 + 1 + 1) % 3 = 0), x115.wk⟩) (z' := ⟨n + 5 * (k : Int), n + 5 * (k : Int) + 1, decide ((n + 5 * (k : Int) + 1 + 1) % 3 = 0), decide ((n + 5 * (k : Int) + 1 + 1 + 1) % 3 = 0), decide ((n + 5 * (k : Int) + 1 + 1 + 1 + 1) % 3 = 0)⟩) (v := .bool (decide ((n + 5 * (k : Int) + 1 + 1 + 1 + 1) % 3 = 0))) ot_4 rfl rfl rfl wide_rt (Own.set2 hO127) (get_set hx116) (by omega) rfl rfl ?_
  intro w130 hO131 hg132
  have hb133 := grown_trans hb129 hg132
  refine wpo_nil ?_
  refine wpf_region ?_
  refine wpo_move (v := .int .i64 (n + 5 * (k : Int) + 1 + 1 + 1 + 1)) rfl rfl ?_
  refine wpo_add (c := n + 5 * (k : Int) + 1 + 1 + 1 + 1 + 1) rfl rfl (by omega) (by omega) (by omega) rfl ?_
  refine wpo_assign (v := .int .i64 (n + 5 * (k : Int) + 1 + 1 + 1 + 1 + 1)) rfl rfl ?_
  refine wpo_nil ?_
  refine blk_n ?_
  refine thn_n ?_
  refine wpf_region ?_
  refine wpo_move (v := .int .i64 (k : Int)) e106 rfl ?_
  refine wpo_add (c := (k : Int) + 1) rfl rfl (by omega) (by omega) (by omega) rfl ?_
  refine wpo_assign (v := .int .i64 ((k : Int) + 1)) rfl rfl ?_
  refine wpo_nil ?_
  refine thn_n ?_
  exact ⟨xs.length - (k + 1), by omega, (k + 1), rfl, (by omega), (markR_len (by omega)), (congrArg (Value.int .i64) (by omega)), rfl, e107, e108, hb133, (by have kk := (Own.set2 hO131); rw [markR_set (by omega)] at kk; exact kk)⟩
 ·
  have h134 := of_decide_eq_false h110
  refine wpf_exit ?_
  refine thn_e ?_
  refine thn_e ?_
  refine blk_e ?_
  refine thn_n ?_
  refine wpf_seq_region ?_
  refine wpo_move (v := .int .i64 (n + 5 * (k : Int))) e105 rfl ?_
  refine wpo_assign (v := .int .i64 (n + 5 * (k : Int))) rfl rfl ?_
  refine wpo_nil ?_
  refine wpf_ret ?_
  have hke : k = xs.length := by omega
  refine ⟨.int .i64 (n + 5 * (k : Int)), res1 rfl rfl, congrArg (Value.int .i64) (by omega), ?_, hb103⟩
  have kk := k109
  rw [markR_all (by omega), hke] at kk
  exact kk
theorem markIntS_c (n : Int) (hn0 : 0 ≤ n ∧ n ≤ 1125899906842624) (S sc : Nat) (xs : List Int) (w : World) (hS : Dw.Own w S 3 1 sc xs.length (xs.flatMap icell)) (hl : xs.length ≤ 1048576) : CallsR Try.prog 79 #[.slice (some ⟨S, 0, none⟩) xs.length sc, .int .i64 n] w (fun v w' => v = .int .i64 (n + (xs.length : Int)) ∧ Dw.Own w' S 3 1 sc ((List.range xs.length).map (fun i : Nat => n + (i : Int))).length (((List.range xs.length).map (fun i : Nat => n + (i : Int))).flatMap icell) ∧ w.grownBy w' (some S)) := by
 refine calls_of_wpf (n := 19) Try.func79 rfl Try.ntmps79 rfl ?_
 have hb0 := World.grownBy.refl w (some S)
 have hSlt := hS.lt
 refine wpf_seq_region ?_
 refine wpo_assign (v := .int .i64 0) rfl rfl ?_
 refine wpo_nil ?_
 refine wpf_seq ?_
 refine wpf_seq_region ?_
 refine wpo_assign (v := .int .i64 0) rfl rfl ?_
 refine wpo_nil ?_
 refine wpf_block ?_
 refine wpf_loopN (fun mm f' w' => ∃ (k : Nat), mm = xs.length - k ∧ k ≤ xs.length ∧ (markI n xs k).length = xs.length ∧ f' 1 = .int .i64 (n + (k : Int)) ∧ f' 5 = .int .i64 (k : Int) ∧ f' 0 = .slice (some ⟨S, 0, none⟩) xs.length sc ∧ f' 4 = .int .i64 0 ∧ w.grownBy w' (some S) ∧ Dw.Own w' S 3 1 sc (markI n xs k).length ((markI n xs k).flatMap icell)) (xs.length - 0) ⟨0, rfl, (Nat.zero_le _), (by rw [markI_zero]), (congrArg (Value.int .i64) (by omega)), rfl, rfl, rfl, hb0, (by rw [markI_zero]; exact hS)⟩ ?_
 rintro mm f101 w102 ⟨k, hm104, hk, hkl, e105, e106, e107, e108, hb103, k109⟩
 refine wpf_seq ?_
 refine wpf_seq_region ?_
 refine wpo_move (v := .int .i64 (k : Int)) e106 rfl ?_
 refine wpo_move (v := .slice (some ⟨S, 0, none⟩) xs.length sc) e107 rfl ?_
 refine wpo_len (by kernel_rfl) rfl rfl ?_
 refine wpo_lss (q := decide ((k : Int) < (xs.length : Int))) rfl rfl rfl rfl ?_
 refine wpo_nil ?_
 refine wpf_cond rfl (fun h110 => ?_) (fun h110 => ?_)
 ·
  have h111 := of_decide_eq_true h110
  refine wpf_skip ?_
  refine thn_n ?_
  refine wpf_seq ?_
  refine wpf_block ?_
  refine wpf_seq_region ?_
  refine wpo_move (v := .slice (some ⟨S, 0, none⟩) xs.length sc) e107 rfl ?_
  refine wpo_move (v := .int .i64 (k : Int)) e106 rfl ?_
  refine wpo_move (v := .int .i64 (n + (k : Int))) e105 rfl ?_
  refine wpo_indexAddr (o' := k * 1) es_43 rfl rfl (by omega) (by omega) (by omega) rfl ?_
  obtain ⟨x115, hx116⟩ := get_lt (l := markI n xs k) (i := k) (by omega)
  refine wpo_store1O (g := icell) (j := 0) (z := x115) (z' := n + (k : Int)) (v := .int .i64 (n + (k : Int))) ot_3 rfl rfl rfl wide_int k109 hx116 (by omega) rfl rfl ?_
  intro w112 hO113 hg114
  have hb117 := grown_trans hb103 hg114
  refine wpo_nil ?_
  refine wpf_region ?_
  refine wpo_move (v := .int .i64 (n + (k : Int))) e105 rfl ?_
  refine wpo_add (c := n + (k : Int) + 1) rfl rfl (by omega) (by omega) (by omega) rfl ?_
  refine wpo_assign (v := .int .i64 (n + (k : Int) + 1)) rfl rfl ?_
  refine wpo_nil ?_
  refine blk_n ?_
  refine thn_n ?_
  refine wpf_region ?_
  refine wpo_move (v := .int .i64 (k : Int)) e106 rfl ?_
  refine wpo_add (c := (k : Int) + 1) rfl rfl (by omega) (by omega) (by omega) rfl ?_
  refine wpo_assign (v := .int .i64 ((k : Int) + 1)) rfl rfl ?_
  refine wpo_nil ?_
  refine thn_n ?_
  exact ⟨xs.length - (k + 1), by omega, (k + 1), rfl, (by omega), (markI_len (by omega)), (congrArg (Value.int .i64) (by omega)), rfl, e107, e108, hb117, (by have kk := hO113; rw [markI_set (by omega)] at kk; exact kk)⟩
 ·
  have h118 := of_decide_eq_false h110
  refine wpf_exit ?_
  refine thn_e ?_
  refine thn_e ?_
  refine blk_e ?_
  refine thn_n ?_
  refine wpf_seq_region ?_
  refine wpo_move (v := .int .i64 (n + (k : Int))) e105 rfl ?_
  refine wpo_assign (v := .int .i64 (n + (k : Int))) rfl rfl ?_
  refine wpo_nil ?_
  refine wpf_ret ?_
  have hke : k = xs.length := by omega
  refine ⟨.int .i64 (n + (k : Int)), res1 rfl rfl, congrArg (Value.int .i64) (by omega), ?_, hb103⟩
  have kk := k109
  rw [markI_all (by omega), hke] at kk
  exact kk
theorem es_54 : elemSz Try.prog 54 = some 8 := by kernel_rfl
theorem es_61 : elemSz Try.prog 61 = some 8 := by kernel_rfl
theorem fo_111_0 : fieldOff Try.prog 111 0 = some 0 := by kernel_rfl
theorem fo_111_1 : fieldOff Try.prog 111 1 = some 1 := by kernel_rfl
theorem fo_111_2 : fieldOff Try.prog 111 2 = some 3 := by kernel_rfl
theorem fo_111_3 : fieldOff Try.prog 111 3 = some 4 := by kernel_rfl
theorem fo_111_4 : fieldOff Try.prog 111 4 = some 5 := by kernel_rfl
theorem fo_111_5 : fieldOff Try.prog 111 5 = some 6 := by kernel_rfl
theorem fo_111_6 : fieldOff Try.prog 111 6 = some 7 := by kernel_rfl
theorem gf_106 : goFn Try.prog 106 = true := by kernel_rfl
theorem gf_107 : goFn Try.prog 107 = true := by kernel_rfl
theorem gf_27 : goFn Try.prog 27 = true := by kernel_rfl
theorem gf_28 : goFn Try.prog 28 = true := by kernel_rfl
theorem gf_84 : goFn Try.prog 84 = true := by kernel_rfl
theorem gf_89 : goFn Try.prog 89 = true := by kernel_rfl
theorem gf_90 : goFn Try.prog 90 = true := by kernel_rfl
theorem mk_43 : mkTy Try.prog 43 = some (3, 1, 8, some (.int .i64 0)) := by kernel_rfl
theorem mk_54 : mkTy Try.prog 54 = some (45, 8, 96, some (.agg #[.int .i64 0, .int .i64 0, .int .i64 0, .int .i64 0, .int .i64 0, .slice none 0 0, .slice none 0 0, .int .i64 0])) := by kernel_rfl
theorem ot_22 : oneTy Try.prog 22 = true := by kernel_rfl
theorem rt_111 : rowTy Try.prog 111 = some 8 := by kernel_rfl
theorem rt_50 : rowTy Try.prog 50 = some 2 := by kernel_rfl
theorem szIntS_c (m : Int) (w : World) (xs : List Int) (a : Option Addr) (c : Nat) (hn : xs.length ≤ 9223372036854775807) (hm : 0 ≤ m ∧ m ≤ 1048576) : CallsR Try.prog 106 #[.slice a xs.length c, .int .i64 m] w (fun v w' => ∃ n : Int, v = .int .i64 n ∧ (0 ≤ n → (xs.length : Int) + n ≤ m) ∧ -1 ≤ n ∧ n ≤ m ∧ w.grownBy w' none) := by
 refine calls_of_wpf (n := 12) Try.func106 rfl Try.ntmps106 rfl ?_
 have hb0 := World.grownBy.refl w none
 refine wpf_seq_region ?_
 refine wpo_assign (v := .int .i64 0) rfl rfl ?_
 refine wpo_nil ?_
 refine wpf_seq_region ?_
 refine wpo_move (v := .int .i64 m) rfl rfl ?_
 refine wpo_move (v := .slice a xs.length c) rfl rfl ?_
 refine wpo_len (by kernel_rfl) rfl rfl ?_
 refine wpo_sub (c := m - (xs.length : Int)) rfl rfl (by omega) (by omega) (by omega) rfl ?_
 refine wpo_assign (v := .int .i64 (m - (xs.length : Int))) rfl rfl ?_
 refine wpo_nil ?_
 refine wpf_seq ?_
 refine wpf_seq_region ?_
 refine wpo_move (v := .int .i64 (m - (xs.length : Int))) rfl rfl ?_
 refine wpo_lss (q := decide (m - (xs.length : Int) < 0)) rfl rfl rfl rfl ?_
 refine wpo_nil ?_
 refine wpf_cond rfl (fun h101 => ?_) (fun h101 => ?_)
 ·
  have h102 := of_decide_eq_true h101
  refine wpf_seq_region ?_
  refine wpo_assign (v := .int .i64 (-1)) rfl rfl ?_
  refine wpo_nil ?_
  refine wpf_ret ?_
  refine thn_r ?_
  refine ⟨.int .i64 (-1), res1 rfl rfl, (-1), rfl, by omega, by omega, by omega, hb0⟩
 ·
  have h103 := of_decide_eq_false h101
  refine wpf_skip ?_
  refine thn_n ?_
  refine wpf_seq_region ?_
  refine wpo_move (v := .int .i64 (m - (xs.length : Int))) rfl rfl ?_
  refine wpo_assign (v := .int .i64 (m - (xs.length : Int))) rfl rfl ?_
  refine wpo_nil ?_
  refine wpf_ret ?_
  refine ⟨.int .i64 (m - (xs.length : Int)), res1 rfl rfl, (m - (xs.length : Int)), rfl, by omega, by omega, by omega, hb0⟩
theorem szThing_c (m : Int) (w : World) (q : MTh) (hq : ThAt w q) (hn : q.t.slots.length ≤ 9223372036854775807 ∧ q.t.queue.length ≤ 9223372036854775807) (hm : 0 ≤ m ∧ m ≤ 1048576) : CallsR Try.prog 89 #[.agg #[.int .i64 q.t.kind, .int .i64 q.t.lab.s, .int .i64 q.t.lab.v, .int .i64 q.t.ve, .int .i64 q.t.num, .slice q.sa q.t.slots.length q.sc, .slice q.qa q.t.queue.length q.qc, .int .i64 q.t.to], .int .i64 m] w (fun v w' => ∃ n : Int, v = .int .i64 n ∧ (0 ≤ n → (q.t.slots.length : Int) + q.t.queue.length + n ≤ m) ∧ -1 ≤ n ∧ n ≤ m ∧ w.grownBy w' none) := by
 refine calls_of_wpf (n := 18) Try.func89 rfl Try.ntmps89 rfl ?_
 have hb0 := World.grownBy.refl w none
 refine wpf_seq_region ?_
 refine wpo_box (v := .agg #[.int .i64 q.t.kind, .int .i64 q.t.lab.s, .int .i64 q.t.lab.v, .int .i64 q.t.ve, .int .i64 q.t.num, .slice q.sa q.t.slots.length q.sc, .slice q.qa q.t.queue.length q.qc, .int .i64 q.t.to]) (cs := #[.int .i64 q.t.kind, .int .i64 q.t.lab.s, .int .i64 q.t.lab.v, .int .i64 q.t.ve, .int .i64 q.t.num, .slice q.sa q.t.slots.length q.sc, .slice q.qa q.t.queue.length q.qc, .int .i64 q.t.to]) rfl rfl rfl ?_
 intro B101 w102 hN103
 have hlB101 := hN_ge hN103 hb0
 have hb104 := low0 hb0 hN103.grw
 refine wpo_assign (v := .int .i64 0) rfl rfl ?_
 refine wpo_nil ?_
 refine wpf_seq_region ?_
 refine wpo_fieldAddr (o' := 5) fo_111_4 rfl rfl rfl ?_
 refine wpo_load1 (v := .slice q.sa q.t.slots.length q.sc) ot_22 rfl (hN103.blk.cell rfl) rfl ?_
 refine wpo_move (v := .int .i64 m) rfl rfl ?_
 refine wpo_call (vs := [.slice q.sa q.t.slots.length q.sc, .int .i64 m]) gf_13 (args_cons rfl (args_cons rfl args_nil)) rfl (szRightS_c m _ q.t.slots _ _ (by omega) (by omega)) ?_
 rintro _ w105 ⟨n107, rfl, hn108, hn109, hn110, hg106⟩
 have hb111 := low0 hb104 hg106
 refine wpo_assign (v := .int .i64 n107) rfl rfl ?_
 refine wpo_nil ?_
 refine wpf_seq ?_
 refine wpf_seq_region ?_
 refine wpo_move (v := .int .i64 n107) rfl rfl ?_
 refine wpo_lss (q := decide (n107 < 0)) rfl rfl rfl rfl ?_
 refine wpo_nil ?_
 refine wpf_cond rfl (fun h112 => ?_) (fun h112 => ?_)
 ·
  have h113 := of_decide_eq_true h112
  refine wpf_seq_region ?_
  refine wpo_assign (v := .int .i64 (-1)) rfl rfl ?_
  refine wpo_nil ?_
  refine wpf_ret ?_
  refine thn_r ?_
  refine ⟨.int .i64 (-1), res1 rfl rfl, (-1), rfl, by omega, by omega, by omega, hb111⟩
 ·
  have h114 := of_decide_eq_false h112
  refine wpf_skip ?_
  refine thn_n ?_
  refine wpf_seq_region ?_
  refine wpo_fieldAddr (o' := 6) fo_111_5 rfl rfl rfl ?_
  have k115 := (hN103.blk.grown0 hg106)
  refine wpo_load1 (v := .slice q.qa q.t.queue.length q.qc) ot_43 rfl (k115.cell rfl) rfl ?_
  refine wpo_move (v := .int .i64 n107) rfl rfl ?_
  refine wpo_call (vs := [.slice q.qa q.t.queue.length q.qc, .int .i64 n107]) gf_106 (args_cons rfl (args_cons rfl args_nil)) rfl (szIntS_c n107 _ q.t.queue _ _ (by omega) (by omega)) ?_
  rintro _ w116 ⟨n118, rfl, hn119, hn120, hn121, hg117⟩
  have hb122 := low0 hb111 hg117
  refine wpo_assign (v := .int .i64 n118) rfl rfl ?_
  refine wpo_nil ?_
  refine wpf_seq ?_
  refine wpf_seq_region ?_
  refine wpo_move (v := .int .i64 n118) rfl rfl ?_
  refine wpo_lss (q := decide (n118 < 0)) rfl rfl rfl rfl ?_
  refine wpo_nil ?_
  refine wpf_cond rfl (fun h123 => ?_) (fun h123 => ?_)
  ·
   have h124 := of_decide_eq_true h123
   refine wpf_seq_region ?_
   refine wpo_assign (v := .int .i64 (-1)) rfl rfl ?_
   refine wpo_nil ?_
   refine wpf_ret ?_
   refine thn_r ?_
   refine ⟨.int .i64 (-1), res1 rfl rfl, (-1), rfl, by omega, by omega, by omega, hb122⟩
  ·
   have h125 := of_decide_eq_false h123
   refine wpf_skip ?_
   refine thn_n ?_
   refine wpf_seq_region ?_
   refine wpo_move (v := .int .i64 n118) rfl rfl ?_
   refine wpo_assign (v := .int .i64 n118) rfl rfl ?_
   refine wpo_nil ?_
   refine wpf_ret ?_
   refine ⟨.int .i64 n118, res1 rfl rfl, n118, rfl, by omega, by omega, by omega, hb122⟩
theorem szThingS_c (m : Int) (w : World) (ms : List MTh) (a : Option Addr) (c : Nat) (ht : TabAt w a ms) (hbig : TabBig ms) (hn : ms.length ≤ 9223372036854775807) (hm : 0 ≤ m ∧ m ≤ 1048576) : CallsR Try.prog 37 #[.slice a ms.length c, .int .i64 m] w (fun v w' => ∃ n : Int, v = .int .i64 n ∧ (0 ≤ n → TabLen ms ∧ ms.length ≤ 1048576) ∧ -1 ≤ n ∧ n ≤ 1048576 ∧ w.grownBy w' none) := by
 refine calls_of_wpf (n := 27) Try.func37 rfl Try.ntmps37 rfl ?_
 have hb0 := World.grownBy.refl w none
 refine wpf_seq_region ?_
 refine wpo_assign (v := .int .i64 0) rfl rfl ?_
 refine wpo_nil ?_
 refine wpf_seq_region ?_
 refine wpo_move (v := .int .i64 m) rfl rfl ?_
 refine wpo_move (v := .slice a ms.length c) rfl rfl ?_
 refine wpo_len (by kernel_rfl) rfl rfl ?_
 refine wpo_sub (c := m - (ms.length : Int)) rfl rfl (by omega) (by omega) (by omega) rfl ?_
 refine wpo_assign (v := .int .i64 (m - (ms.length : Int))) rfl rfl ?_
 refine wpo_nil ?_
 refine wpf_seq ?_
 refine wpf_seq_region ?_
 refine wpo_move (v := .int .i64 (m - (ms.length : Int))) rfl rfl ?_
 refine wpo_lss (q := decide (m - (ms.length : Int) < 0)) rfl rfl rfl rfl ?_
 refine wpo_nil ?_
 refine wpf_cond rfl (fun h101 => ?_) (fun h101 => ?_)
 ·
  have h102 := of_decide_eq_true h101
  refine wpf_seq_region ?_
  refine wpo_assign (v := .int .i64 (-1)) rfl rfl ?_
  refine wpo_nil ?_
  refine wpf_ret ?_
  refine thn_r ?_
  refine ⟨.int .i64 (-1), res1 rfl rfl, (-1), rfl, fun h => absurd h (by omega), by omega, by omega, hb0⟩
 ·
  have h103 := of_decide_eq_false h101
  refine wpf_skip ?_
  refine thn_n ?_
  refine wpf_seq ?_
  refine wpf_seq_region ?_
  refine wpo_assign (v := .int .i64 0) rfl rfl ?_
  refine wpo_nil ?_
  refine wpf_block ?_
  refine wpf_loopN (fun mm f' w' => ∃ (k : Nat) (n : Int), mm = ms.length - k ∧ k ≤ ms.length ∧ (0 ≤ n ∧ n ≤ 1048576) ∧ (∀ x ∈ ms.take k, x.t.slots.length ≤ 1048576 ∧ x.t.queue.length ≤ 1048576) ∧ f' 1 = .int .i64 n ∧ f' 5 = .int .i64 (k : Int) ∧ f' 0 = .slice a ms.length c ∧ w.grownBy w' none) (ms.length - 0) ⟨0, (m - (ms.length : Int)), rfl, (Nat.zero_le _), (by omega), (fun x hx => by simp at hx), rfl, rfl, rfl, hb0⟩ ?_
  rintro mm f104 w105 ⟨k, n, hm107, hk, hnn, htl, e108, e109, e110, hb106⟩
  refine wpf_seq ?_
  refine wpf_seq_region ?_
  refine wpo_move (v := .int .i64 (k : Int)) e109 rfl ?_
  refine wpo_move (v := .slice a ms.length c) e110 rfl ?_
  refine wpo_len (by kernel_rfl) rfl rfl ?_
  refine wpo_lss (q := decide ((k : Int) < (ms.length : Int))) rfl rfl rfl rfl ?_
  refine wpo_nil ?_
  refine wpf_cond rfl (fun h111 => ?_) (fun h111 => ?_)
  ·
   have h112 := of_decide_eq_true h111
   refine wpf_skip ?_
   refine thn_n ?_
   refine wpf_seq ?_
   refine wpf_block ?_
   refine wpf_seq_region ?_
   refine wpo_move (v := .slice a ms.length c) e110 rfl ?_
   refine wpo_move (v := .int .i64 (k : Int)) e109 rfl ?_
   obtain ⟨b115, q116, o117, ha118, ho119, hr120⟩ := SlAt.at (TabAt.low ht hb106).1 (map_get (mAt_get (show k < ms.length by omega)))
   have hle121 := TabBig.at hbig (mAt_get (show k < ms.length by omega))
   refine wpo_indexE es_61 rfl rfl ha118 ho119 (by omega) (by omega) rfl ?_
   refine wpo_loadn (vs := [.int .i64 ((mAt ms k).t.kind), .int .i64 ((mAt ms k).t.lab.s), .int .i64 ((mAt ms k).t.lab.v), .int .i64 ((mAt ms k).t.ve), .int .i64 ((mAt ms k).t.num), .slice ((mAt ms k).sa) ((mAt ms k).t.slots.length) ((mAt ms k).sc), .slice ((mAt ms k).qa) ((mAt ms k).t.queue.length) ((mAt ms k).qc), .int .i64 ((mAt ms k).t.to)]) rt_111 rfl rfl (range_sub hr120 0 8 rfl) rfl ?_
   refine wpo_move (v := .int .i64 n) e108 rfl ?_
   refine wpo_call (vs := [.agg #[.int .i64 ((mAt ms k).t.kind), .int .i64 ((mAt ms k).t.lab.s), .int .i64 ((mAt ms k).t.lab.v), .int .i64 ((mAt ms k).t.ve), .int .i64 ((mAt ms k).t.num), .slice ((mAt ms k).sa) ((mAt ms k).t.slots.length) ((mAt ms k).sc), .slice ((mAt ms k).qa) ((mAt ms k).t.queue.length) ((mAt ms k).qc), .int .i64 ((mAt ms k).t.to)], .int .i64 n]) gf_89 (args_cons rfl (args_cons rfl args_nil)) rfl (szThing_c n _ (mAt ms k) (TabAt.th (TabAt.low ht hb106) (mAt_get (show k < ms.length by omega))) (by omega) (by omega)) ?_
   rintro _ w122 ⟨n124, rfl, hn125, hn126, hn127, hg123⟩
   have hb128 := low0 hb106 hg123
   refine wpo_assign (v := .int .i64 n124) rfl rfl ?_
   refine wpo_nil ?_
   refine wpf_seq_region ?_
   refine wpo_move (v := .int .i64 n124) rfl rfl ?_
   refine wpo_lss (q := decide (n124 < 0)) rfl rfl rfl rfl ?_
   refine wpo_nil ?_
   refine wpf_cond rfl (fun h129 => ?_) (fun h129 => ?_)
   ·
    have h130 := of_decide_eq_true h129
    refine wpf_seq_region ?_
    refine wpo_assign (v := .int .i64 (-1)) rfl rfl ?_
    refine wpo_nil ?_
    refine wpf_ret ?_
    refine blk_r ?_
    refine thn_r ?_
    refine thn_r ?_
    refine blk_r ?_
    refine thn_r ?_
    refine ⟨.int .i64 (-1), res1 rfl rfl, (-1), rfl, fun h => absurd h (by omega), by omega, by omega, hb128⟩
   ·
    have h131 := of_decide_eq_false h129
    refine wpf_skip ?_
    refine blk_n ?_
    refine thn_n ?_
    refine wpf_region ?_
    refine wpo_move (v := .int .i64 (k : Int)) e109 rfl ?_
    refine wpo_add (c := (k : Int) + 1) rfl rfl (by omega) (by omega) (by omega) rfl ?_
    refine wpo_assign (v := .int .i64 ((k : Int) + 1)) rfl rfl ?_
    refine wpo_nil ?_
    refine thn_n ?_
    exact ⟨ms.length - (k + 1), by omega, (k + 1), n124, rfl, (by omega), (by omega), (take_len htl (mAt_get (show k < ms.length by omega)) (by omega)), rfl, rfl, e110, hb128⟩
  ·
   have h132 := of_decide_eq_false h111
   refine wpf_exit ?_
   refine thn_e ?_
   refine thn_e ?_
   refine blk_e ?_
   refine thn_n ?_
   refine wpf_seq_region ?_
   refine wpo_move (v := .int .i64 n) e108 rfl ?_
   refine wpo_assign (v := .int .i64 n) rfl rfl ?_
   refine wpo_nil ?_
   refine wpf_ret ?_
   refine ⟨.int .i64 n, res1 rfl rfl, n, rfl, fun _ => ⟨take_len_all htl (by omega), by omega⟩, by omega, by omega, hb106⟩
theorem toIntS_c (w : World) (xs : List Int) (a : Option Addr) (c : Nat) (hs : SlAt w a 1 (xs.map icell)) (hn : xs.length ≤ 1048576) : CallsR Try.prog 107 #[.slice a xs.length c] w (fun v w' => ∃ B : Nat, v = .slice (some ⟨B, 0, none⟩) xs.length xs.length ∧ w.heap.size ≤ B ∧ Blk w' B 3 (xs.flatMap icell).toArray ∧ w.grownBy w' none) := by
 refine calls_of_wpf (n := 22) Try.func107 rfl Try.ntmps107 rfl ?_
 have hb0 := World.grownBy.refl w none
 refine wpf_seq_region ?_
 refine wpo_assign (v := .slice none 0 0) rfl rfl ?_
 refine wpo_nil ?_
 refine wpf_seq_region ?_
 refine wpo_move (v := .slice a xs.length c) rfl rfl ?_
 refine wpo_len (by kernel_rfl) rfl rfl ?_
 refine wpo_make (g := icell) (z := (0 : Int)) (c := xs.length) mk_43 rfl wide_int (by omega) rfl rfl (by omega) (by omega) rfl ?_
 intro B101 w102 hN103
 have hlB101 := hN_ge hN103 hb0
 have hb104 := low0 hb0 hN103.grw
 refine wpo_assign (v := .slice (some ⟨B101, 0, none⟩) xs.length xs.length) rfl rfl ?_
 refine wpo_nil ?_
 refine wpf_seq ?_
 refine wpf_seq_region ?_
 refine wpo_assign (v := .int .i64 0) rfl rfl ?_
 refine wpo_nil ?_
 refine wpf_block ?_
 refine wpf_loopN (fun mm f' w' => ∃ (k : Nat), mm = xs.length - k ∧ k ≤ xs.length ∧ (fill xs (0 : Int) k).length = xs.length ∧ f' 4 = .int .i64 (k : Int) ∧ f' 0 = .slice a xs.length c ∧ f' 2 = .slice none 0 0 ∧ f' 3 = .slice (some ⟨B101, 0, none⟩) xs.length xs.length ∧ w.grownBy w' none ∧ Blk w' B101 3 ((fill xs (0 : Int) k).flatMap icell).toArray) (xs.length - 0) ⟨0, rfl, (Nat.zero_le _), (fill_len (Nat.zero_le _)), rfl, rfl, rfl, rfl, hb104, (by rw [fill_zero]; exact hN103.blk)⟩ ?_
 rintro mm f105 w106 ⟨k, hm108, hk, hfl, e109, e110, e111, e112, hb107, k113⟩
 refine wpf_seq ?_
 refine wpf_seq_region ?_
 refine wpo_move (v := .int .i64 (k : Int)) e109 rfl ?_
 refine wpo_move (v := .slice a xs.length c) e110 rfl ?_
 refine wpo_len (by kernel_rfl) rfl rfl ?_
 refine wpo_lss (q := decide ((k : Int) < (xs.length : Int))) rfl rfl rfl rfl ?_
 refine wpo_nil ?_
 refine wpf_cond rfl (fun h114 => ?_) (fun h114 => ?_)
 ·
  have h115 := of_decide_eq_true h114
  refine wpf_skip ?_
  refine thn_n ?_
  refine wpf_seq ?_
  refine wpf_block ?_
  refine wpf_region ?_
  refine wpo_move (v := .slice (some ⟨B101, 0, none⟩) xs.length xs.length) e112 rfl ?_
  refine wpo_move (v := .int .i64 (k : Int)) e109 rfl ?_
  refine wpo_move (v := .slice a xs.length c) e110 rfl ?_
  refine wpo_move (v := .int .i64 (k : Int)) e109 rfl ?_
  obtain ⟨x116, hx117⟩ := get_lt (l := xs) (i := k) (by omega)
  obtain ⟨b118, q119, o120, ha121, ho122, hr123⟩ := SlAt.at hs (map_get hx117)
  refine wpo_indexE es_43 rfl rfl ha121 ho122 (by omega) (by omega) rfl ?_
  refine wpo_load1 (v := .int .i64 x116) ot_3 rfl ((range_low hr123 hb107) 0 _ rfl) rfl ?_
  refine wpo_indexAddr (o' := k * 1) es_43 rfl rfl (by omega) (by omega) (by omega) rfl ?_
  obtain ⟨x126, hx127⟩ := get_lt (l := fill xs (0 : Int) k) (i := k) (by omega)
  refine wpo_store1 (v := .int .i64 x116) (cs' := (((fill xs (0 : Int) k).set k x116).flatMap icell).toArray) ot_3 rfl rfl rfl k113 (rows_lt1 (j := 0) wide_int hx127 (by omega)) (rows_set1 (j := 0) wide_int hx127 x116 (by omega) rfl) ?_
  intro w124 hS125
  have hb128 := low1 hb107 hS125.grw (by omega)
  refine wpo_nil ?_
  refine blk_n ?_
  refine thn_n ?_
  refine wpf_region ?_
  refine wpo_move (v := .int .i64 (k : Int)) e109 rfl ?_
  refine wpo_add (c := (k : Int) + 1) rfl rfl (by omega) (by omega) (by omega) rfl ?_
  refine wpo_assign (v := .int .i64 ((k : Int) + 1)) rfl rfl ?_
  refine wpo_nil ?_
  refine thn_n ?_
  exact ⟨xs.length - (k + 1), by omega, (k + 1), rfl, (by omega), (fill_len (by omega)), rfl, e110, e111, e112, hb128, (by have kk := hS125.blk; rw [fill_set hx117] at kk; exact kk)⟩
 ·
  have h129 := of_decide_eq_false h114
  refine wpf_exit ?_
  refine thn_e ?_
  refine thn_e ?_
  refine blk_e ?_
  refine thn_n ?_
  refine wpf_seq_region ?_
  refine wpo_move (v := .slice (some ⟨B101, 0, none⟩) xs.length xs.length) e112 rfl ?_
  refine wpo_assign (v := .slice (some ⟨B101, 0, none⟩) xs.length xs.length) rfl rfl ?_
  refine wpo_nil ?_
  refine wpf_ret ?_
  refine ⟨.slice (some ⟨B101, 0, none⟩) xs.length xs.length, res1 rfl rfl, B101, rfl, hlB101, ?_, hb107⟩
  have kk := k113
  rw [fill_all (by omega)] at kk
  exact kk
theorem eqThingS_c (w : World) (ms ps : List MTh) (a b : Option Addr) (c e : Nat) (ht : TabAt w a ms) (hp : TabAt w b ps) (hlen : TabLen ms) (hlep : TabLen ps) (hn : ms.length ≤ 1048576) (hm : ps.length ≤ 1048576) : CallsR Try.prog 39 #[.slice a ms.length c, .slice b ps.length e] w (fun v w' => v = .bool (decide (tabT ms = tabT ps)) ∧ w.grownBy w' none) := by
 refine calls_of_wpf (n := 27) Try.func39 rfl Try.ntmps39 rfl ?_
 have hb0 := World.grownBy.refl w none
 refine wpf_seq_region ?_
 refine wpo_assign (v := .bool false) rfl rfl ?_
 refine wpo_nil ?_
 refine wpf_seq ?_
 refine wpf_seq_region ?_
 refine wpo_move (v := .slice a ms.length c) rfl rfl ?_
 refine wpo_len (by kernel_rfl) rfl rfl ?_
 refine wpo_move (v := .slice b ps.length e) rfl rfl ?_
 refine wpo_len (by kernel_rfl) rfl rfl ?_
 refine wpo_neq (q := !(decide ((ms.length : Int) = (ps.length : Int)))) rfl rfl rfl rfl ?_
 refine wpo_nil ?_
 refine wpf_cond rfl (fun h101 => ?_) (fun h101 => ?_)
 ·
  have h102 := nt_t h101
  have h103 := of_decide_eq_false h102
  refine wpf_seq_region ?_
  refine wpo_assign (v := .bool false) rfl rfl ?_
  refine wpo_nil ?_
  refine wpf_ret ?_
  refine thn_r ?_
  refine ⟨.bool false, res1 rfl rfl, ?_, hb0⟩
  exact congrArg Value.bool (decide_eq_false (fun h => by have := tabT_length h; omega)).symm
 ·
  have h104 := nt_f h101
  have h105 := of_decide_eq_true h104
  refine wpf_skip ?_
  refine thn_n ?_
  refine wpf_seq ?_
  refine wpf_seq_region ?_
  refine wpo_assign (v := .int .i64 0) rfl rfl ?_
  refine wpo_nil ?_
  refine wpf_block ?_
  refine wpf_loopN (fun mm f' w' => ∃ (k : Nat), mm = ms.length - k ∧ k ≤ ms.length ∧ (tabT ms).take k = (tabT ps).take k ∧ f' 5 = .int .i64 (k : Int) ∧ f' 0 = .slice a ms.length c ∧ f' 1 = .slice b ps.length e ∧ w.grownBy w' none) (ms.length - 0) ⟨0, rfl, (Nat.zero_le _), rfl, rfl, rfl, rfl, hb0⟩ ?_
  rintro mm f106 w107 ⟨k, hm109, hk, ha, e110, e111, e112, hb108⟩
  refine wpf_seq ?_
  refine wpf_seq_region ?_
  refine wpo_move (v := .int .i64 (k : Int)) e110 rfl ?_
  refine wpo_move (v := .slice a ms.length c) e111 rfl ?_
  refine wpo_len (by kernel_rfl) rfl rfl ?_
  refine wpo_lss (q := decide ((k : Int) < (ms.length : Int))) rfl rfl rfl rfl ?_
  refine wpo_nil ?_
  refine wpf_cond rfl (fun h113 => ?_) (fun h113 => ?_)
  ·
   have h114 := of_decide_eq_true h113
   refine wpf_skip ?_
   refine thn_n ?_
   refine wpf_seq ?_
   refine wpf_block ?_
   refine wpf_seq ?_
   obtain ⟨b159, q160, o161, ha162, ho163, hr164⟩ := SlAt.at (TabAt.low ht hb108).1 (map_get (mAt_get (show k < ms.length by omega)))
   have hle165 := TabLen.at hlen (mAt_get (show k < ms.length by omega))
   obtain ⟨b168, q169, o170, ha171, ho172, hr173⟩ := SlAt.at (TabAt.low hp hb108).1 (map_get (mAt_get (show k < ps.length by omega)))
   have hle174 := TabLen.at hlep (mAt_get (show k < ps.length by omega))
   refine wpf_draw (m := 8) (vals := [(17, .slice a ms.length c), (18, .int .i64 (k : Int)), (19, .pointer (some ⟨b159, o161, none⟩)), (20, .agg #[.int .i64 ((mAt ms k).t.kind), .int .i64 ((mAt ms k).t.lab.s), .int .i64 ((mAt ms k).t.lab.v), .int .i64 ((mAt ms k).t.ve), .int .i64 ((mAt ms k).t.num), .slice ((mAt ms k).sa) ((mAt ms k).t.slots.length) ((mAt ms k).sc), .slice ((mAt ms k).qa) ((mAt ms k).t.queue.length) ((mAt ms k).qc), .int .i64 ((mAt ms k).t.to)]), (21, .slice b ps.length e), (22, .int .i64 (k : Int)), (23, .pointer (some ⟨b168, o170, none⟩)), (24, .agg #[.int .i64 ((mAt ps k).t.kind), .int .i64 ((mAt ps k).t.lab.s), .int .i64 ((mAt ps k).t.lab.v), .int .i64 ((mAt ps k).t.ve), .int .i64 ((mAt ps k).t.num), .slice ((mAt ps k).sa) ((mAt ps k).t.slots.length) ((mAt ps k).sc), .slice ((mAt ps k).qa) ((mAt ps k).t.queue.length) ((mAt ps k).qc), .int .i64 ((mAt ps k).t.to)])]) (fun w' => w107.grownBy w' none) mixed_ (by kernel_rfl) (grown_drew _) ?_ ?_
   ·
    refine yll_cons rfl (fun w178 hi179 => ?_) ?_
    ·
     have hb180 := low0 hb108 hi179
     refine wpo_move (v := .slice a ms.length c) e111 rfl ?_
     exact wpo_nil ⟨rfl, hi179⟩
    refine yll_cons rfl (fun w181 hi182 => ?_) ?_
    ·
     have hb183 := low0 hb108 hi182
     refine wpo_move (v := .int .i64 (k : Int)) e110 rfl ?_
     exact wpo_nil ⟨rfl, hi182⟩
    refine yll_cons rfl (fun w184 hi185 => ?_) ?_
    ·
     have hb186 := low0 hb108 hi185
     refine wpo_indexE es_54 rfl rfl ha162 ho163 (by omega) (by omega) rfl ?_
     exact wpo_nil ⟨rfl, hi185⟩
    refine yll_cons rfl (fun w187 hi188 => ?_) ?_
    ·
     have hb189 := low0 hb108 hi188
     refine wpo_loadn (vs := [.int .i64 ((mAt ms k).t.kind), .int .i64 ((mAt ms k).t.lab.s), .int .i64 ((mAt ms k).t.lab.v), .int .i64 ((mAt ms k).t.ve), .int .i64 ((mAt ms k).t.num), .slice ((mAt ms k).sa) ((mAt ms k).t.slots.length) ((mAt ms k).sc), .slice ((mAt ms k).qa) ((mAt ms k).t.queue.length) ((mAt ms k).qc), .int .i64 ((mAt ms k).t.to)]) rt_45 rfl rfl (range_sub (range_low hr164 hi188) 0 8 rfl) rfl ?_
     exact wpo_nil ⟨rfl, hi188⟩
    refine yll_cons rfl (fun w190 hi191 => ?_) ?_
    ·
     have hb192 := low0 hb108 hi191
     refine wpo_move (v := .slice b ps.length e) e112 rfl ?_
     exact wpo_nil ⟨rfl, hi191⟩
    refine yll_cons rfl (fun w193 hi194 => ?_) ?_
    ·
     have hb195 := low0 hb108 hi194
     refine wpo_move (v := .int .i64 (k : Int)) e110 rfl ?_
     exact wpo_nil ⟨rfl, hi194⟩
    refine yll_cons rfl (fun w196 hi197 => ?_) ?_
    ·
     have hb198 := low0 hb108 hi197
     refine wpo_indexE es_54 rfl rfl ha171 ho172 (by omega) (by omega) rfl ?_
     exact wpo_nil ⟨rfl, hi197⟩
    refine yll_cons rfl (fun w199 hi200 => ?_) ?_
    ·
     have hb201 := low0 hb108 hi200
     refine wpo_loadn (vs := [.int .i64 ((mAt ps k).t.kind), .int .i64 ((mAt ps k).t.lab.s), .int .i64 ((mAt ps k).t.lab.v), .int .i64 ((mAt ps k).t.ve), .int .i64 ((mAt ps k).t.num), .slice ((mAt ps k).sa) ((mAt ps k).t.slots.length) ((mAt ps k).sc), .slice ((mAt ps k).qa) ((mAt ps k).t.queue.length) ((mAt ps k).qc), .int .i64 ((mAt ps k).t.to)]) rt_45 rfl rfl (range_sub (range_low hr173 hi200) 0 8 rfl) rfl ?_
     exact wpo_nil ⟨rfl, hi200⟩
    exact yll_nil
   ·
    intro w202 hi203
    have hb204 := low0 hb108 hi203
    refine wpo_call (vs := [.agg #[.int .i64 ((mAt ms k).t.kind), .int .i64 ((mAt ms k).t.lab.s), .int .i64 ((mAt ms k).t.lab.v), .int .i64 ((mAt ms k).t.ve), .int .i64 ((mAt ms k).t.num), .slice ((mAt ms k).sa) ((mAt ms k).t.slots.length) ((mAt ms k).sc), .slice ((mAt ms k).qa) ((mAt ms k).t.queue.length) ((mAt ms k).qc), .int .i64 ((mAt ms k).t.to)], .agg #[.int .i64 ((mAt ps k).t.kind), .int .i64 ((mAt ps k).t.lab.s), .int .i64 ((mAt ps k).t.lab.v), .int .i64 ((mAt ps k).t.ve), .int .i64 ((mAt ps k).t.num), .slice ((mAt ps k).sa) ((mAt ps k).t.slots.length) ((mAt ps k).sc), .slice ((mAt ps k).qa) ((mAt ps k).t.queue.length) ((mAt ps k).qc), .int .i64 ((mAt ps k).t.to)]]) gf_28 (args_cons rfl (args_cons rfl args_nil)) rfl (eqThing_c (mAt ms k) (mAt ps k) _ (TabAt.th (TabAt.low ht hb204) (mAt_get (show k < ms.length by omega))) (TabAt.th (TabAt.low hp hb204) (mAt_get (show k < ps.length by omega))) ⟨by first | omega | exact Nat.le_of_ble_eq_true rfl | (simp only [List.length_nil, List.length_cons, List.length_append, List.length_replicate]; omega), by first | omega | exact Nat.le_of_ble_eq_true rfl | (simp only [List.length_nil, List.length_cons, List.length_append, List.length_replicate]; omega)⟩ ⟨by first | omega | exact Nat.le_of_ble_eq_true rfl | (simp only [List.length_nil, List.length_cons, List.length_append, List.length_replicate]; omega), by first | omega | exact Nat.le_of_ble_eq_true rfl | (simp only [List.length_nil, List.length_cons, List.length_append, List.length_replicate]; omega)⟩) ?_
    rintro _ w205 ⟨rfl, hg206⟩
    have hb207 := low0 hb204 hg206
    refine wpo_not (b' := !(decide ((mAt ms k).t = (mAt ps k).t))) rfl rfl rfl ?_
    refine wpo_nil ?_
    refine thn_n ?_
    refine wpf_cond rfl (fun h208 => ?_) (fun h208 => ?_)
    ·
     have h209 := nt_t h208
     have h210 := of_decide_eq_false h209
     refine wpf_seq_region ?_
     refine wpo_assign (v := .bool false) rfl rfl ?_
     refine wpo_nil ?_
     refine wpf_ret ?_
     refine blk_r ?_
     refine thn_r ?_
     refine thn_r ?_
     refine blk_r ?_
     refine thn_r ?_
     refine ⟨.bool false, res1 rfl rfl, ?_, hb207⟩
     exact congrArg Value.bool (decide_eq_false (ne_of_at (tab_at (by omega)) (tab_at (by omega)) (of_decide_eq_false h209))).symm
    ·
     have h211 := nt_f h208
     have h212 := of_decide_eq_true h211
     refine wpf_skip ?_
     refine blk_n ?_
     refine thn_n ?_
     refine wpf_region ?_
     refine wpo_move (v := .int .i64 (k : Int)) e110 rfl ?_
     refine wpo_add (c := (k : Int) + 1) rfl rfl (by omega) (by omega) (by omega) rfl ?_
     refine wpo_assign (v := .int .i64 ((k : Int) + 1)) rfl rfl ?_
     refine wpo_nil ?_
     refine thn_n ?_
     exact ⟨ms.length - (k + 1), by omega, (k + 1), rfl, (by omega), (take_eq_succ ha (tab_at (by omega)) (tab_at (by omega)) (of_decide_eq_true h211)), rfl, e111, e112, hb207⟩
  ·
   have h213 := of_decide_eq_false h113
   refine wpf_exit ?_
   refine thn_e ?_
   refine thn_e ?_
   refine blk_e ?_
   refine thn_n ?_
   refine wpf_seq_region ?_
   refine wpo_assign (v := .bool true) rfl rfl ?_
   refine wpo_nil ?_
   refine wpf_ret ?_
   refine ⟨.bool true, res1 rfl rfl, ?_, hb108⟩
   exact congrArg Value.bool (decide_eq_true (eq_of_take ha (by rw [tabT_len]; omega) (by rw [tabT_len]; omega))).symm
theorem thingExists_c (k : Int) (w : World) (a : Option Addr) (n c : Nat) : CallsR Try.prog 84 #[.slice a n c, .int .i64 k] w (fun v w' => v = .bool (inR k 1 (n : Int)) ∧ w.grownBy w' none) := by
 refine calls_of_wpf (n := 9) Try.func84 rfl Try.ntmps84 rfl ?_
 have hb0 := World.grownBy.refl w none
 refine wpf_seq_region ?_
 refine wpo_assign (v := .bool false) rfl rfl ?_
 refine wpo_nil ?_
 refine wpf_seq_region ?_
 refine wpo_move (v := .int .i64 k) rfl rfl ?_
 refine wpo_move (v := .slice a n c) rfl rfl ?_
 refine wpo_len (by kernel_rfl) rfl rfl ?_
 refine wpo_call (vs := [.int .i64 k, .int .i64 1, .int .i64 (n : Int)]) gf_69 (args_cons rfl (args_cons rfl (args_cons rfl args_nil))) rfl (inRange_c k 1 (n : Int) _) ?_
 rintro _ w101 ⟨rfl, hg102⟩
 have hb103 := low0 hb0 hg102
 refine wpo_assign (v := .bool (inR k 1 (n : Int))) rfl rfl ?_
 refine wpo_nil ?_
 refine wpf_ret ?_
 refine ⟨.bool (inR k 1 (n : Int)), res1 rfl rfl, ?_, hb103⟩
 rfl
theorem kindAt_c (k kd : Int) (hk : -9223372036854775807 ≤ k) (w : World) (ms : List MTh) (a : Option Addr) (c : Nat) (ht : TabAt w a ms) (hlen : TabLen ms) (hn : ms.length ≤ 1048576) : CallsR Try.prog 103 #[.slice a ms.length c, .int .i64 k, .int .i64 kd] w (fun v w' => v = .bool (kindAt (tabT ms) k kd) ∧ w.grownBy w' none) := by
 refine calls_of_wpf (n := 20) Try.func103 rfl Try.ntmps103 rfl ?_
 have hb0 := World.grownBy.refl w none
 refine wpf_seq_region ?_
 refine wpo_assign (v := .bool false) rfl rfl ?_
 refine wpo_nil ?_
 refine wpf_seq_region_mid (fun f' w' => (f' 6 = .bool (inR k 1 (ms.length : Int) && (decide ((mAt ms ((k - 1).toNat)).t.kind = kd)))) ∧ w.grownBy w' none) ?_ ?_
 ·
  refine wpo_move (v := .slice a ms.length c) rfl rfl ?_
  refine wpo_move (v := .int .i64 k) rfl rfl ?_
  refine wpo_call (vs := [.slice a ms.length c, .int .i64 k]) gf_84 (args_cons rfl (args_cons rfl args_nil)) rfl (thingExists_c k _ _ _ _) ?_
  rintro _ w116 ⟨rfl, hg117⟩
  have hb118 := low0 hb0 hg117
  refine wpo_move (v := .bool (inR k 1 (ms.length : Int))) rfl rfl ?_
  rcases bcases (inR k 1 (ms.length : Int)) with h119 | h119
  ·
   have hr120 := inR_iff.1 h119
   refine wpo_run rfl rfl rfl h119 ?_
   refine wpo_move (v := .slice a ms.length c) rfl rfl ?_
   refine wpo_run rfl rfl rfl h119 ?_
   refine wpo_move (v := .int .i64 k) rfl rfl ?_
   refine wpo_run rfl rfl rfl h119 ?_
   refine wpo_sub (c := k - 1) rfl rfl (by omega) (by omega) (by omega) rfl ?_
   refine wpo_run rfl rfl rfl h119 ?_
   obtain ⟨b123, q124, o125, ha126, ho127, hr128⟩ := SlAt.at (TabAt.low ht hb118).1 (map_get (mAt_get (show (k - 1).toNat < ms.length by omega)))
   have hle129 := TabLen.at hlen (mAt_get (show (k - 1).toNat < ms.length by omega))
   refine wpo_indexE es_54 rfl rfl ha126 ho127 (by omega) (by omega) rfl ?_
   refine wpo_run rfl rfl rfl h119 ?_
   refine wpo_fieldAddr (o' := o125) fo_45_0 rfl rfl rfl ?_
   refine wpo_run rfl rfl rfl h119 ?_
   refine wpo_load1 (v := .int .i64 ((mAt ms ((k - 1).toNat)).t.kind)) ot_3 rfl (hr128 0 _ rfl) rfl ?_
   refine wpo_run rfl rfl rfl h119 ?_
   refine wpo_move (v := .int .i64 kd) rfl rfl ?_
   refine wpo_run rfl rfl rfl h119 ?_
   refine wpo_eql (q := decide ((mAt ms ((k - 1).toNat)).t.kind = kd)) rfl rfl rfl rfl ?_
   refine wpo_pickt (v := .bool (decide ((mAt ms ((k - 1).toNat)).t.kind = kd))) rfl h119 rfl rfl ?_
   refine wpo_assign (v := .bool (decide ((mAt ms ((k - 1).toNat)).t.kind = kd))) rfl rfl ?_
   exact wpo_nil ⟨(congrArg Value.bool (by first | (simp only [h119, b0, b1, b2, b3, b4, b5, b6, b7, b8, b9]; done) | simp [h119])), hg117⟩
  ·
   iterate 8 refine wpo_pass rfl rfl rfl h119 rfl ?_
   refine wpo_pickf (v := .bool false) rfl h119 rfl rfl ?_
   refine wpo_assign (v := .bool false) rfl rfl ?_
   exact wpo_nil ⟨(congrArg Value.bool (by first | (simp only [h119, b0, b1, b2, b3, b4, b5, b6, b7, b8, b9]; done) | simp [h119])), hg117⟩
 ·
  rintro f130 w131 ⟨e132, hg133⟩
  have hb134 := low0 hb0 hg133
  refine wpf_ret ?_
  refine ⟨.bool (inR k 1 (ms.length : Int) && (decide ((mAt ms ((k - 1).toNat)).t.kind = kd))), res1 rfl e132, ?_, hb134⟩
  exact congrArg Value.bool kindAt_m
end Go.Proofs.Ytlkmdoebmklbbaa
