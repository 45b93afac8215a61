/- Walks, printed by a program of mine (gen.py) out of the functions. -/
import Derived.Test.YtlkmdoebmklbbaaProg
import Derived.Test.YtlkmdoebmklbbaaR
import Derived.Test.YtlkmdoebmklbbaaN
import Derived.Test.YtlkmdoebmklbbaaP
import Derived.Test.YtlkmdoebmklbbaaF
import Derived.Test.YtlkmdoebmklbbaaY
import Derived.Test.YtlkmdoebmklbbaaE
import Derived.Test.YtlkmdoebmklbbaaZ
import Derived.Test.YtlkmdoebmklbbaaKE
import Derived.Test.YtlkmdoebmklbbaaTO
import Derived.Test.YtlkmdoebmklbbaaL
namespace Go.Proofs.Ytlkmdoebmklbbaa
open Go.RowKit Go.Dw
set_option maxRecDepth 100000
set_option maxHeartbeats 4000000
set_option linter.unusedSimpArgs false
set_option linter.unusedVariables false
theorem fo_29_0 : fieldOff Try.prog 29 0 = some 0 := by kernel_rfl
theorem fo_29_1 : fieldOff Try.prog 29 1 = some 1 := by kernel_rfl
theorem fo_29_3 : fieldOff Try.prog 29 3 = some 3 := by kernel_rfl
theorem fo_29_4 : fieldOff Try.prog 29 4 = some 4 := by kernel_rfl
theorem fo_40_0 : fieldOff Try.prog 40 0 = some 0 := by kernel_rfl
theorem fo_40_1 : fieldOff Try.prog 40 1 = some 1 := by kernel_rfl
theorem gf_70 : goFn Try.prog 70 = true := by kernel_rfl
theorem gf_87 : goFn Try.prog 87 = true := by kernel_rfl
theorem gf_88 : goFn Try.prog 88 = true := by kernel_rfl
theorem ot_3 : oneTy Try.prog 3 = true := by kernel_rfl
theorem ot_4 : oneTy Try.prog 4 = true := by kernel_rfl
theorem rt_29 : rowTy Try.prog 29 = some 5 := by kernel_rfl
theorem rt_40 : rowTy Try.prog 40 = some 2 := by kernel_rfl
theorem mixed_ : Try.prog.follows .mixedOrders = true := by kernel_rfl
theorem eqG_29 (x y : Operand) (a b : Rt) (w : World) : (eqGuard .eql 29 x y (.agg a.cells.toArray) (.agg b.cells.toArray)).run Try.prog w = .ok () w := by kernel_rfl
theorem eqV_29 (a b : Rt) (w : World) : (binOp .eql 29 (.agg a.cells.toArray) (.agg b.cells.toArray)).run Try.prog w = .ok (.bool (decide (a = b))) w := by
  have h := run_equalIn_struct (P := Try.prog) w 9999 29 a.cells.toArray b.cells.toArray (by kernel_rfl) (by kernel_rfl)
  obtain ⟨a0, a1, a2, a3, a4⟩ := a
  obtain ⟨b0, b1, b2, b3, b4⟩ := b
  simp only [binOp, Op.equal, Op.maxDepth, Sem.run_bind, Rt.cells] at h ⊢
  rw [h]
  simp [go_sem]
  (repeat' split) <;> simp_all
theorem LabelOk_c (l : Lab) (w : World) : CallsR Try.prog 70 #[.agg #[.int .i64 l.s, .int .i64 l.v]] w (fun v w' => v = .bool (labelOk l) ∧ w.grownBy w' none) := by
 refine calls_of_wpf (n := 21) Try.func70 rfl Try.ntmps70 rfl ?_
 have hb0 := World.grownBy.refl w none
 refine wpf_seq_region ?_
 refine wpo_box (v := .agg #[.int .i64 l.s, .int .i64 l.v]) (cs := #[.int .i64 l.s, .int .i64 l.v]) rfl rfl rfl ?_
 intro B101 w102 hN103
 have hlB101 := hN_ge hN103 hb0
 have hb104 := low0 hb0 hN103.grw
 refine wpo_assign (v := .bool false) rfl rfl ?_
 refine wpo_nil ?_
 refine wpf_seq_region_mid (fun f' w' => (f' 2 = .bool ((((decide (0 ≤ l.s)) && (decide (l.s ≤ 3))) && (decide (0 ≤ l.v))) && (decide (l.v ≤ 3)))) ∧ w102 = w') ?_ ?_
 ·
  refine wpo_fieldAddr (o' := 0) fo_40_0 rfl rfl rfl ?_
  refine wpo_load1 (v := .int .i64 l.s) ot_3 rfl (hN103.blk.cell rfl) rfl ?_
  refine wpo_geq (q := decide (0 ≤ l.s)) rfl rfl rfl rfl ?_
  refine wpo_move (v := .bool (decide (0 ≤ l.s))) rfl rfl ?_
  rcases bcases (decide (0 ≤ l.s)) with h105 | h105
  ·
   have h106 := of_decide_eq_true h105
   refine wpo_run rfl rfl rfl h105 ?_
   refine wpo_fieldAddr (o' := 0) fo_40_0 rfl rfl rfl ?_
   refine wpo_run rfl rfl rfl h105 ?_
   refine wpo_load1 (v := .int .i64 l.s) ot_3 rfl (hN103.blk.cell rfl) rfl ?_
   refine wpo_run rfl rfl rfl h105 ?_
   refine wpo_leq (q := decide (l.s ≤ 3)) rfl rfl rfl rfl ?_
   refine wpo_pickt (v := .bool (decide (l.s ≤ 3))) rfl h105 rfl rfl ?_
   refine wpo_move (v := .bool (decide (l.s ≤ 3))) rfl rfl ?_
   rcases bcases (decide (l.s ≤ 3)) with h107 | h107
   ·
    have h108 := of_decide_eq_true h107
    refine wpo_run rfl rfl rfl h107 ?_
    refine wpo_fieldAddr (o' := 1) fo_40_1 rfl rfl rfl ?_
    refine wpo_run rfl rfl rfl h107 ?_
    refine wpo_load1 (v := .int .i64 l.v) ot_3 rfl (hN103.blk.cell rfl) rfl ?_
    refine wpo_run rfl rfl rfl h107 ?_
    refine wpo_geq (q := decide (0 ≤ l.v)) rfl rfl rfl rfl ?_
    refine wpo_pickt (v := .bool (decide (0 ≤ l.v))) rfl h107 rfl rfl ?_
    refine wpo_move (v := .bool (decide (0 ≤ l.v))) rfl rfl ?_
    rcases bcases (decide (0 ≤ l.v)) with h109 | h109
    ·
     have h110 := of_decide_eq_true h109
     refine wpo_run rfl rfl rfl h109 ?_
     refine wpo_fieldAddr (o' := 1) fo_40_1 rfl rfl rfl ?_
     refine wpo_run rfl rfl rfl h109 ?_
     refine wpo_load1 (v := .int .i64 l.v) ot_3 rfl (hN103.blk.cell rfl) rfl ?_
     refine wpo_run rfl rfl rfl h109 ?_
     refine wpo_leq (q := decide (l.v ≤ 3)) rfl rfl rfl rfl ?_
     refine wpo_pickt (v := .bool (decide (l.v ≤ 3))) rfl h109 rfl rfl ?_
     refine wpo_assign (v := .bool (decide (l.v ≤ 3))) rfl rfl ?_
     exact wpo_nil ⟨(congrArg Value.bool (by first | (simp only [h105, h107, h109, b0, b1, b2, b3, b4, b5, b6, b7, b8, b9]; done) | simp [h105, h107, h109])), rfl⟩
    ·
     have h111 := of_decide_eq_false h109
     iterate 3 refine wpo_pass rfl rfl rfl h109 rfl ?_
     refine wpo_pickf (v := .bool false) rfl h109 rfl rfl ?_
     refine wpo_assign (v := .bool false) rfl rfl ?_
     exact wpo_nil ⟨(congrArg Value.bool (by first | (simp only [h105, h107, h109, b0, b1, b2, b3, b4, b5, b6, b7, b8, b9]; done) | simp [h105, h107, h109])), rfl⟩
   ·
    have h112 := of_decide_eq_false h107
    iterate 3 refine wpo_pass rfl rfl rfl h107 rfl ?_
    refine wpo_pickf (v := .bool false) rfl h107 rfl rfl ?_
    refine wpo_move (v := .bool false) rfl rfl ?_
    iterate 3 refine wpo_pass rfl rfl rfl rfl rfl ?_
    refine wpo_pickf (v := .bool false) rfl rfl rfl rfl ?_
    refine wpo_assign (v := .bool false) rfl rfl ?_
    exact wpo_nil ⟨(congrArg Value.bool (by first | (simp only [h105, h107, b0, b1, b2, b3, b4, b5, b6, b7, b8, b9]; done) | simp [h105, h107])), rfl⟩
  ·
   have h113 := of_decide_eq_false h105
   iterate 3 refine wpo_pass rfl rfl rfl h105 rfl ?_
   refine wpo_pickf (v := .bool false) rfl h105 rfl rfl ?_
   refine wpo_move (v := .bool false) rfl rfl ?_
   iterate 3 refine wpo_pass rfl rfl rfl rfl rfl ?_
   refine wpo_pickf (v := .bool false) rfl rfl rfl rfl ?_
   refine wpo_move (v := .bool false) rfl rfl ?_
   iterate 3 refine wpo_pass rfl rfl rfl rfl rfl ?_
   refine wpo_pickf (v := .bool false) rfl rfl rfl rfl ?_
   refine wpo_assign (v := .bool false) rfl rfl ?_
   exact wpo_nil ⟨(congrArg Value.bool (by first | (simp only [h105, b0, b1, b2, b3, b4, b5, b6, b7, b8, b9]; done) | simp [h105])), rfl⟩
 ·
  rintro f114 w115 ⟨e116, rfl⟩
  refine wpf_ret ?_
  refine ⟨.bool ((((decide (0 ≤ l.s)) && (decide (l.s ≤ 3))) && (decide (0 ≤ l.v))) && (decide (l.v ≤ 3))), res1 rfl e116, ?_, hb104⟩
  simp [labelOk, inR, Bool.and_assoc]
theorem labelSets_c (l : Lab) (hl : labelOk l = true) (w : World) : CallsR Try.prog 87 #[.agg #[.int .i64 l.s, .int .i64 l.v]] w (fun v w' => v = .tuple #[.int .u64 l.s, .int .u64 l.v] ∧ w.grownBy w' none) := by
 refine calls_of_wpf (n := 10) Try.func87 rfl Try.ntmps87 rfl ?_
 have hb0 := World.grownBy.refl w none
 obtain ⟨⟨hl1, hl2⟩, hl3, hl4⟩ := (labelOk_iff l).1 hl
 refine wpf_seq_region ?_
 refine wpo_box (v := .agg #[.int .i64 l.s, .int .i64 l.v]) (cs := #[.int .i64 l.s, .int .i64 l.v]) rfl rfl rfl ?_
 intro B101 w102 hN103
 have hlB101 := hN_ge hN103 hb0
 have hb104 := low0 hb0 hN103.grw
 refine wpo_assign (v := .int .u64 0) rfl rfl ?_
 refine wpo_assign (v := .int .u64 0) rfl rfl ?_
 refine wpo_nil ?_
 refine wpf_seq ?_
 refine wpf_draw (m := 7) (vals := [(4, .pointer (some ⟨B101, 0, none⟩)), (5, .int .i64 l.s), (6, .int .u64 l.s), (7, .pointer (some ⟨B101, 1, none⟩)), (8, .int .i64 l.v), (9, .int .u64 l.v), (2, .int .u64 l.s)]) (fun w' => w102.grownBy w' none) mixed_ (by kernel_rfl) (grown_drew _) ?_ ?_
 ·
  refine yll_cons rfl (fun w105 hi106 => ?_) ?_
  ·
   have hb107 := low0 hb104 hi106
   refine wpo_fieldAddr (o' := 0) fo_40_0 rfl rfl rfl ?_
   exact wpo_nil ⟨rfl, hi106⟩
  refine yll_cons rfl (fun w108 hi109 => ?_) ?_
  ·
   have hb110 := low0 hb104 hi109
   have k111 := (hN103.blk.grown0 hi109)
   refine wpo_load1 (v := .int .i64 l.s) ot_3 rfl (k111.cell rfl) rfl ?_
   exact wpo_nil ⟨rfl, hi109⟩
  refine yll_cons rfl (fun w112 hi113 => ?_) ?_
  ·
   have hb114 := low0 hb104 hi113
   refine wpo_conv (P := Try.prog) (k' := .u64) rfl (by kernel_rfl) (by kernel_rfl) (conv_u64 (by omega) (by omega)) rfl ?_
   exact wpo_nil ⟨rfl, hi113⟩
  refine yll_cons rfl (fun w115 hi116 => ?_) ?_
  ·
   have hb117 := low0 hb104 hi116
   refine wpo_fieldAddr (o' := 1) fo_40_1 rfl rfl rfl ?_
   exact wpo_nil ⟨rfl, hi116⟩
  refine yll_cons rfl (fun w118 hi119 => ?_) ?_
  ·
   have hb120 := low0 hb104 hi119
   have k121 := (hN103.blk.grown0 hi119)
   refine wpo_load1 (v := .int .i64 l.v) ot_3 rfl (k121.cell rfl) rfl ?_
   exact wpo_nil ⟨rfl, hi119⟩
  refine yll_cons rfl (fun w122 hi123 => ?_) ?_
  ·
   have hb124 := low0 hb104 hi123
   refine wpo_conv (P := Try.prog) (k' := .u64) rfl (by kernel_rfl) (by kernel_rfl) (conv_u64 (by omega) (by omega)) rfl ?_
   exact wpo_nil ⟨rfl, hi123⟩
  refine yll_cons rfl (fun w125 hi126 => ?_) ?_
  ·
   have hb127 := low0 hb104 hi126
   refine wpo_assign (v := .int .u64 l.s) rfl rfl ?_
   exact wpo_nil ⟨rfl, hi126⟩
  exact yll_nil
 ·
  intro w128 hi129
  have hb130 := low0 hb104 hi129
  refine wpo_assign (v := .int .u64 l.v) rfl rfl ?_
  refine wpo_nil ?_
  refine thn_n ?_
  refine wpf_ret ?_
  refine ⟨.tuple #[.int .u64 l.s, .int .u64 l.v], res2 rfl rfl rfl, ?_, hb130⟩
  rfl
theorem within_c (a b : Int) (w : World) : CallsR Try.prog 88 #[.int .u64 a, .int .u64 b] w (fun v w' => v = .bool (decide (bits .andNot .u64 a b = 0)) ∧ w.grownBy w' none) := by
 refine calls_of_wpf (n := 9) Try.func88 rfl Try.ntmps88 rfl ?_
 have hb0 := World.grownBy.refl w none
 refine wpf_seq_region ?_
 refine wpo_assign (v := .bool false) rfl rfl ?_
 refine wpo_nil ?_
 refine wpf_seq_region ?_
 refine wpo_move (v := .int .u64 a) rfl rfl ?_
 refine wpo_move (v := .int .u64 b) rfl rfl ?_
 refine wpo_bin (u := .int .u64 a) (u' := .int .u64 b) (v := .int .u64 (bits .andNot .u64 a b)) rfl rfl (by rw [binOp_andNot, intBits_andNot]; rfl) (fun _ _ => eqGuard_at_int ..) rfl ?_
 refine wpo_eql (q := decide (bits .andNot .u64 a b = 0)) rfl rfl rfl rfl ?_
 refine wpo_assign (v := .bool (decide (bits .andNot .u64 a b = 0))) rfl rfl ?_
 refine wpo_nil ?_
 refine wpf_ret ?_
 refine ⟨.bool (decide (bits .andNot .u64 a b = 0)), res1 rfl rfl, ?_, hb0⟩
 rfl
theorem LabelFlow_c (a b : Lab) (w : World) : CallsR Try.prog 36 #[.agg #[.int .i64 a.s, .int .i64 a.v], .agg #[.int .i64 b.s, .int .i64 b.v]] w (fun v w' => v = .bool (labelFlow a b) ∧ w.grownBy w' none) := by
 refine calls_of_wpf (n := 35) Try.func36 rfl Try.ntmps36 rfl ?_
 have hb0 := World.grownBy.refl w none
 refine wpf_seq_region ?_
 refine wpo_box (v := .agg #[.int .i64 a.s, .int .i64 a.v]) (cs := #[.int .i64 a.s, .int .i64 a.v]) rfl rfl rfl ?_
 intro B101 w102 hN103
 have hlB101 := hN_ge hN103 hb0
 have hb104 := low0 hb0 hN103.grw
 refine wpo_box (v := .agg #[.int .i64 b.s, .int .i64 b.v]) (cs := #[.int .i64 b.s, .int .i64 b.v]) rfl rfl rfl ?_
 intro B105 w106 hN107
 have hlB105 := hN_ge hN107 hb104
 have lt_B101_B105 := hN_gtl hN107 (hN103.blk).lt
 have hb108 := low0 hb104 hN107.grw
 refine wpo_assign (v := .bool false) rfl rfl ?_
 refine wpo_nil ?_
 refine wpf_seq ?_
 refine wpf_seq_region_mid (fun f' w' => (f' 2 = .pointer (some ⟨B101, 0, none⟩) ∧ f' 3 = .pointer (some ⟨B105, 0, none⟩) ∧ f' 4 = .bool false ∧ f' 16 = .bool ((!labelOk a) || (!labelOk b))) ∧ w106.grownBy w' none) ?_ ?_
 ·
  have k121 := (hN103.blk.grown0 hN107.grw)
  refine wpo_loadn (vs := [.int .i64 a.s, .int .i64 a.v]) rt_40 rfl rfl (k121.rangeL 0 2 rfl) rfl ?_
  refine wpo_call (vs := [.agg #[.int .i64 a.s, .int .i64 a.v]]) gf_70 (args_cons rfl args_nil) rfl (LabelOk_c a _) ?_
  rintro _ w122 ⟨rfl, hg123⟩
  have hb124 := low0 hb108 hg123
  refine wpo_not (b' := !labelOk a) rfl rfl rfl ?_
  refine wpo_move (v := .bool (!labelOk a)) rfl rfl ?_
  rcases bcases (!labelOk a) with h125 | h125
  ·
   have h126 := nt_t h125
   iterate 3 refine wpo_pass rfl rfl rfl h125 rfl ?_
   refine wpo_pickt (v := .bool true) rfl h125 rfl rfl ?_
   exact wpo_nil ⟨⟨rfl, rfl, rfl, (congrArg Value.bool (by first | (simp only [h125, h126, b0, b1, b2, b3, b4, b5, b6, b7, b8, b9]; done) | simp [h125, h126]))⟩, hg123⟩
  ·
   have h127 := nt_f h125
   refine wpo_run rfl rfl rfl h125 ?_
   have k128 := (hN107.blk.grown0 hg123)
   refine wpo_loadn (vs := [.int .i64 b.s, .int .i64 b.v]) rt_40 rfl rfl (k128.rangeL 0 2 rfl) rfl ?_
   refine wpo_run rfl rfl rfl h125 ?_
   refine wpo_call (vs := [.agg #[.int .i64 b.s, .int .i64 b.v]]) gf_70 (args_cons rfl args_nil) rfl (LabelOk_c b _) ?_
   rintro _ w129 ⟨rfl, hg130⟩
   have hb131 := low0 hb124 hg130
   refine wpo_run rfl rfl rfl h125 ?_
   refine wpo_not (b' := !labelOk b) rfl rfl rfl ?_
   refine wpo_pickf (v := .bool (!labelOk b)) rfl h125 rfl rfl ?_
   exact wpo_nil ⟨⟨rfl, rfl, rfl, (congrArg Value.bool (by first | (simp only [h125, h127, b0, b1, b2, b3, b4, b5, b6, b7, b8, b9]; done) | simp [h125, h127]))⟩, (grown_trans hg123 hg130)⟩
 ·
  rintro f132 w133 ⟨⟨e134, e135, e136, e137⟩, hg138⟩
  have hb139 := low0 hb108 hg138
  refine wpf_cond e137 (fun h140 => ?_) (fun h140 => ?_)
  ·
   refine wpf_seq_region ?_
   refine wpo_assign (v := .bool false) rfl rfl ?_
   refine wpo_nil ?_
   refine wpf_ret ?_
   refine thn_r ?_
   refine ⟨.bool false, res1 rfl rfl, ?_, hb139⟩
   exact congrArg Value.bool (labelFlow_no h140).symm
  ·
   have h141 := or_l h140
   have h142 := nt_f h141
   have h143 := or_r h140
   have h144 := nt_f h143
   refine wpf_skip ?_
   refine thn_n ?_
   refine wpf_seq_region ?_
   have k145 := ((hN103.blk.grown0 hN107.grw).grown0 hg138)
   refine wpo_loadn (vs := [.int .i64 a.s, .int .i64 a.v]) rt_40 e134 rfl (k145.rangeL 0 2 rfl) rfl ?_
   refine wpo_call (vs := [.agg #[.int .i64 a.s, .int .i64 a.v]]) gf_87 (args_cons rfl args_nil) rfl (labelSets_c a h142 _) ?_
   rintro _ w146 ⟨rfl, hg147⟩
   have hb148 := low0 hb139 hg147
   refine wpo_move (v := .tuple #[.int .u64 a.s, .int .u64 a.v]) rfl rfl ?_
   refine wpo_extract (v := .int .u64 a.s) rfl rfl rfl ?_
   refine wpo_extract (v := .int .u64 a.v) rfl rfl rfl ?_
   refine wpo_assign (v := .int .u64 a.s) rfl rfl ?_
   refine wpo_assign (v := .int .u64 a.v) rfl rfl ?_
   refine wpo_nil ?_
   refine wpf_seq_region ?_
   have k149 := ((hN107.blk.grown0 hg138).grown0 hg147)
   refine wpo_loadn (vs := [.int .i64 b.s, .int .i64 b.v]) rt_40 e135 rfl (k149.rangeL 0 2 rfl) rfl ?_
   refine wpo_call (vs := [.agg #[.int .i64 b.s, .int .i64 b.v]]) gf_87 (args_cons rfl args_nil) rfl (labelSets_c b h144 _) ?_
   rintro _ w150 ⟨rfl, hg151⟩
   have hb152 := low0 hb148 hg151
   refine wpo_move (v := .tuple #[.int .u64 b.s, .int .u64 b.v]) rfl rfl ?_
   refine wpo_extract (v := .int .u64 b.s) rfl rfl rfl ?_
   refine wpo_extract (v := .int .u64 b.v) rfl rfl rfl ?_
   refine wpo_assign (v := .int .u64 b.s) rfl rfl ?_
   refine wpo_assign (v := .int .u64 b.v) rfl rfl ?_
   refine wpo_nil ?_
   refine wpf_seq_region_mid (fun f' w' => (f' 4 = .bool ((decide (bits .andNot .u64 a.s b.s = 0)) && (decide (bits .andNot .u64 b.v a.v = 0)))) ∧ w150.grownBy w' none) ?_ ?_
   ·
    refine wpo_move (v := .int .u64 a.s) rfl rfl ?_
    refine wpo_move (v := .int .u64 b.s) rfl rfl ?_
    refine wpo_call (vs := [.int .u64 a.s, .int .u64 b.s]) gf_88 (args_cons rfl (args_cons rfl args_nil)) rfl (within_c a.s b.s _) ?_
    rintro _ w162 ⟨rfl, hg163⟩
    have hb164 := low0 hb152 hg163
    refine wpo_move (v := .bool (decide (bits .andNot .u64 a.s b.s = 0))) rfl rfl ?_
    rcases bcases (decide (bits .andNot .u64 a.s b.s = 0)) with h165 | h165
    ·
     have h166 := of_decide_eq_true h165
     refine wpo_run rfl rfl rfl h165 ?_
     refine wpo_move (v := .int .u64 b.v) rfl rfl ?_
     refine wpo_run rfl rfl rfl h165 ?_
     refine wpo_move (v := .int .u64 a.v) rfl rfl ?_
     refine wpo_run rfl rfl rfl h165 ?_
     refine wpo_call (vs := [.int .u64 b.v, .int .u64 a.v]) gf_88 (args_cons rfl (args_cons rfl args_nil)) rfl (within_c b.v a.v _) ?_
     rintro _ w167 ⟨rfl, hg168⟩
     have hb169 := low0 hb164 hg168
     refine wpo_pickt (v := .bool (decide (bits .andNot .u64 b.v a.v = 0))) rfl h165 rfl rfl ?_
     refine wpo_assign (v := .bool (decide (bits .andNot .u64 b.v a.v = 0))) rfl rfl ?_
     exact wpo_nil ⟨(congrArg Value.bool (by first | (simp only [h140, h141, h142, h143, h144, h165, b0, b1, b2, b3, b4, b5, b6, b7, b8, b9]; done) | simp [h140, h141, h142, h143, h144, h165])), (grown_trans hg163 hg168)⟩
    ·
     have h170 := of_decide_eq_false h165
     iterate 3 refine wpo_pass rfl rfl rfl h165 rfl ?_
     refine wpo_pickf (v := .bool false) rfl h165 rfl rfl ?_
     refine wpo_assign (v := .bool false) rfl rfl ?_
     exact wpo_nil ⟨(congrArg Value.bool (by first | (simp only [h140, h141, h142, h143, h144, h165, b0, b1, b2, b3, b4, b5, b6, b7, b8, b9]; done) | simp [h140, h141, h142, h143, h144, h165])), hg163⟩
   ·
    rintro f171 w172 ⟨e173, hg174⟩
    have hb175 := low0 hb152 hg174
    refine wpf_ret ?_
    refine ⟨.bool ((decide (bits .andNot .u64 a.s b.s = 0)) && (decide (bits .andNot .u64 b.v a.v = 0))), res1 rfl e173, ?_, hb175⟩
    exact congrArg Value.bool (labelFlow_yes h142 h144)
theorem RightOk_c (r : Rt) (w : World) : CallsR Try.prog 20 #[.agg #[.int .i64 r.th, .int .i64 r.ve, .bool r.rd, .bool r.wr, .bool r.wk]] w (fun v w' => v = .bool (rightOk r) ∧ w.grownBy w' none) := by
 refine calls_of_wpf (n := 33) Try.func20 rfl Try.ntmps20 rfl ?_
 have hb0 := World.grownBy.refl w none
 refine wpf_seq_region ?_
 refine wpo_box (v := .agg #[.int .i64 r.th, .int .i64 r.ve, .bool r.rd, .bool r.wr, .bool r.wk]) (cs := #[.int .i64 r.th, .int .i64 r.ve, .bool r.rd, .bool r.wr, .bool r.wk]) rfl rfl rfl ?_
 intro B101 w102 hN103
 have hlB101 := hN_ge hN103 hb0
 have hb104 := low0 hb0 hN103.grw
 refine wpo_assign (v := .bool false) rfl rfl ?_
 refine wpo_nil ?_
 refine wpf_seq ?_
 refine wpf_seq_region ?_
 refine wpo_loadn (vs := [.int .i64 r.th, .int .i64 r.ve, .bool r.rd, .bool r.wr, .bool r.wk]) rt_29 rfl rfl (hN103.blk.rangeL 0 5 rfl) rfl ?_
 refine wpo_build (ps := []) (v := .agg #[.int .i64 0, .int .i64 0, .bool false, .bool false, .bool false]) parts_nil (by kernel_rfl) rfl ?_
 refine wpo_eqs (q := decide (r = Rt.zero)) rfl rfl (eqG_29 _ _ r Rt.zero _) (eqV_29 r Rt.zero _) rfl rfl ?_
 refine wpo_nil ?_
 refine wpf_cond rfl (fun h105 => ?_) (fun h105 => ?_)
 ·
  have h106 := of_decide_eq_true h105
  refine wpf_seq_region ?_
  refine wpo_assign (v := .bool true) rfl rfl ?_
  refine wpo_nil ?_
  refine wpf_ret ?_
  refine thn_r ?_
  refine ⟨.bool true, res1 rfl rfl, ?_, hb104⟩
  simp [rightOk, inR, Bool.and_assoc, h105]
 ·
  have h107 := of_decide_eq_false h105
  refine wpf_skip ?_
  refine thn_n ?_
  refine wpf_seq_region_mid (fun f' w' => (f' 2 = .bool (((((decide (1 ≤ r.th)) && (decide (r.th ≤ 8))) && (decide (0 ≤ r.ve))) && (decide (r.ve ≤ 5))) && (!(r.wk && r.wr)))) ∧ w102 = w') ?_ ?_
  ·
   refine wpo_fieldAddr (o' := 0) fo_29_0 rfl rfl rfl ?_
   refine wpo_load1 (v := .int .i64 r.th) ot_3 rfl (hN103.blk.cell rfl) rfl ?_
   refine wpo_geq (q := decide (1 ≤ r.th)) rfl rfl rfl rfl ?_
   refine wpo_move (v := .bool (decide (1 ≤ r.th))) rfl rfl ?_
   rcases bcases (decide (1 ≤ r.th)) with h108 | h108
   ·
    have h109 := of_decide_eq_true h108
    refine wpo_run rfl rfl rfl h108 ?_
    refine wpo_fieldAddr (o' := 0) fo_29_0 rfl rfl rfl ?_
    refine wpo_run rfl rfl rfl h108 ?_
    refine wpo_load1 (v := .int .i64 r.th) ot_3 rfl (hN103.blk.cell rfl) rfl ?_
    refine wpo_run rfl rfl rfl h108 ?_
    refine wpo_leq (q := decide (r.th ≤ 8)) rfl rfl rfl rfl ?_
    refine wpo_pickt (v := .bool (decide (r.th ≤ 8))) rfl h108 rfl rfl ?_
    refine wpo_move (v := .bool (decide (r.th ≤ 8))) rfl rfl ?_
    rcases bcases (decide (r.th ≤ 8)) with h110 | h110
    ·
     have h111 := of_decide_eq_true h110
     refine wpo_run rfl rfl rfl h110 ?_
     refine wpo_fieldAddr (o' := 1) fo_29_1 rfl rfl rfl ?_
     refine wpo_run rfl rfl rfl h110 ?_
     refine wpo_load1 (v := .int .i64 r.ve) ot_3 rfl (hN103.blk.cell rfl) rfl ?_
     refine wpo_run rfl rfl rfl h110 ?_
     refine wpo_geq (q := decide (0 ≤ r.ve)) rfl rfl rfl rfl ?_
     refine wpo_pickt (v := .bool (decide (0 ≤ r.ve))) rfl h110 rfl rfl ?_
     refine wpo_move (v := .bool (decide (0 ≤ r.ve))) rfl rfl ?_
     rcases bcases (decide (0 ≤ r.ve)) with h112 | h112
     ·
      have h113 := of_decide_eq_true h112
      refine wpo_run rfl rfl rfl h112 ?_
      refine wpo_fieldAddr (o' := 1) fo_29_1 rfl rfl rfl ?_
      refine wpo_run rfl rfl rfl h112 ?_
      refine wpo_load1 (v := .int .i64 r.ve) ot_3 rfl (hN103.blk.cell rfl) rfl ?_
      refine wpo_run rfl rfl rfl h112 ?_
      refine wpo_leq (q := decide (r.ve ≤ 5)) rfl rfl rfl rfl ?_
      refine wpo_pickt (v := .bool (decide (r.ve ≤ 5))) rfl h112 rfl rfl ?_
      refine wpo_move (v := .bool (decide (r.ve ≤ 5))) rfl rfl ?_
      rcases bcases (decide (r.ve ≤ 5)) with h114 | h114
      ·
       have h115 := of_decide_eq_true h114
       refine wpo_run rfl rfl rfl h114 ?_
       refine wpo_fieldAddr (o' := 4) fo_29_4 rfl rfl rfl ?_
       refine wpo_run rfl rfl rfl h114 ?_
       refine wpo_load1 (v := .bool r.wk) ot_4 rfl (hN103.blk.cell rfl) rfl ?_
       refine wpo_run rfl rfl rfl h114 ?_
       refine wpo_move (v := .bool r.wk) rfl rfl ?_
       rcases bcases (r.wk) with h116 | h116
       ·
        refine wpo_run rfl rfl rfl h116 ?_
        refine wpo_fieldAddr (o' := 3) fo_29_3 rfl rfl rfl ?_
        refine wpo_run rfl rfl rfl h116 ?_
        refine wpo_load1 (v := .bool r.wr) ot_4 rfl (hN103.blk.cell rfl) rfl ?_
        refine wpo_run rfl rfl rfl h114 ?_
        refine wpo_pickt (v := .bool r.wr) rfl h116 rfl rfl ?_
        refine wpo_run rfl rfl rfl h114 ?_
        refine wpo_not (b' := !r.wr) rfl rfl rfl ?_
        refine wpo_pickt (v := .bool (!r.wr)) rfl h114 rfl rfl ?_
        refine wpo_assign (v := .bool (!r.wr)) rfl rfl ?_
        exact wpo_nil ⟨(congrArg Value.bool (by first | (simp only [h105, h108, h110, h112, h114, h116, b0, b1, b2, b3, b4, b5, b6, b7, b8, b9]; done) | simp [h105, h108, h110, h112, h114, h116])), rfl⟩
       ·
        refine wpo_pass rfl rfl rfl h116 rfl ?_
        refine wpo_pass rfl rfl rfl h116 rfl ?_
        refine wpo_run rfl rfl rfl h114 ?_
        refine wpo_pickf (v := .bool false) rfl h116 rfl rfl ?_
        refine wpo_run rfl rfl rfl h114 ?_
        refine wpo_not (b' := true) rfl rfl rfl ?_
        refine wpo_pickt (v := .bool true) rfl h114 rfl rfl ?_
        refine wpo_assign (v := .bool true) rfl rfl ?_
        exact wpo_nil ⟨(congrArg Value.bool (by first | (simp only [h105, h108, h110, h112, h114, h116, b0, b1, b2, b3, b4, b5, b6, b7, b8, b9]; done) | simp [h105, h108, h110, h112, h114, h116])), rfl⟩
      ·
       have h117 := of_decide_eq_false h114
       iterate 3 refine wpo_pass rfl rfl rfl h114 rfl ?_
       refine wpo_passu rfl rfl rfl rfl ?_
       refine wpo_passu rfl rfl rfl rfl ?_
       refine wpo_pass rfl rfl rfl h114 rfl ?_
       refine wpo_pass rfl rfl rfl h114 rfl ?_
       refine wpo_pickf (v := .bool false) rfl h114 rfl rfl ?_
       refine wpo_assign (v := .bool false) rfl rfl ?_
       exact wpo_nil ⟨(congrArg Value.bool (by first | (simp only [h105, h108, h110, h112, h114, b0, b1, b2, b3, b4, b5, b6, b7, b8, b9]; done) | simp [h105, h108, h110, h112, h114])), rfl⟩
     ·
      have h118 := of_decide_eq_false h112
      iterate 3 refine wpo_pass rfl rfl rfl h112 rfl ?_
      refine wpo_pickf (v := .bool false) rfl h112 rfl rfl ?_
      refine wpo_move (v := .bool false) rfl rfl ?_
      iterate 3 refine wpo_pass rfl rfl rfl rfl rfl ?_
      refine wpo_passu rfl rfl rfl rfl ?_
      refine wpo_passu rfl rfl rfl rfl ?_
      refine wpo_pass rfl rfl rfl rfl rfl ?_
      refine wpo_pass rfl rfl rfl rfl rfl ?_
      refine wpo_pickf (v := .bool false) rfl rfl rfl rfl ?_
      refine wpo_assign (v := .bool false) rfl rfl ?_
      exact wpo_nil ⟨(congrArg Value.bool (by first | (simp only [h105, h108, h110, h112, b0, b1, b2, b3, b4, b5, b6, b7, b8, b9]; done) | simp [h105, h108, h110, h112])), rfl⟩
    ·
     have h119 := of_decide_eq_false h110
     iterate 3 refine wpo_pass rfl rfl rfl h110 rfl ?_
     refine wpo_pickf (v := .bool false) rfl h110 rfl rfl ?_
     refine wpo_move (v := .bool false) rfl rfl ?_
     iterate 3 refine wpo_pass rfl rfl rfl rfl rfl ?_
     refine wpo_pickf (v := .bool false) rfl rfl rfl rfl ?_
     refine wpo_move (v := .bool false) rfl rfl ?_
     iterate 3 refine wpo_pass rfl rfl rfl rfl rfl ?_
     refine wpo_passu rfl rfl rfl rfl ?_
     refine wpo_passu rfl rfl rfl rfl ?_
     refine wpo_pass rfl rfl rfl rfl rfl ?_
     refine wpo_pass rfl rfl rfl rfl rfl ?_
     refine wpo_pickf (v := .bool false) rfl rfl rfl rfl ?_
     refine wpo_assign (v := .bool false) rfl rfl ?_
     exact wpo_nil ⟨(congrArg Value.bool (by first | (simp only [h105, h108, h110, b0, b1, b2, b3, b4, b5, b6, b7, b8, b9]; done) | simp [h105, h108, h110])), rfl⟩
   ·
    have h120 := of_decide_eq_false h108
    iterate 3 refine wpo_pass rfl rfl rfl h108 rfl ?_
    refine wpo_pickf (v := .bool false) rfl h108 rfl rfl ?_
    refine wpo_move (v := .bool false) rfl rfl ?_
    iterate 3 refine wpo_pass rfl rfl rfl rfl rfl ?_
    refine wpo_pickf (v := .bool false) rfl rfl rfl rfl ?_
    refine wpo_move (v := .bool false) rfl rfl ?_
    iterate 3 refine wpo_pass rfl rfl rfl rfl rfl ?_
    refine wpo_pickf (v := .bool false) rfl rfl rfl rfl ?_
    refine wpo_move (v := .bool false) rfl rfl ?_
    iterate 3 refine wpo_pass rfl rfl rfl rfl rfl ?_
    refine wpo_passu rfl rfl rfl rfl ?_
    refine wpo_passu rfl rfl rfl rfl ?_
    refine wpo_pass rfl rfl rfl rfl rfl ?_
    refine wpo_pass rfl rfl rfl rfl rfl ?_
    refine wpo_pickf (v := .bool false) rfl rfl rfl rfl ?_
    refine wpo_assign (v := .bool false) rfl rfl ?_
    exact wpo_nil ⟨(congrArg Value.bool (by first | (simp only [h105, h108, b0, b1, b2, b3, b4, b5, b6, b7, b8, b9]; done) | simp [h105, h108])), rfl⟩
  ·
   rintro f121 w122 ⟨e123, rfl⟩
   refine wpf_ret ?_
   refine ⟨.bool (((((decide (1 ≤ r.th)) && (decide (r.th ≤ 8))) && (decide (0 ≤ r.ve))) && (decide (r.ve ≤ 5))) && (!(r.wk && r.wr))), res1 rfl e123, ?_, hb104⟩
   simp [rightOk, inR, Bool.and_assoc, h105]
theorem fo_29_2 : fieldOff Try.prog 29 2 = some 2 := by kernel_rfl
theorem gf_100 : goFn Try.prog 100 = true := by kernel_rfl
theorem gf_105 : goFn Try.prog 105 = true := by kernel_rfl
theorem gf_54 : goFn Try.prog 54 = true := by kernel_rfl
theorem gf_85 : goFn Try.prog 85 = true := by kernel_rfl
theorem zt_29 : zeroTy Try.prog 29 = some (.agg #[.int .i64 0, .int .i64 0, .bool false, .bool false, .bool false]) := by kernel_rfl
theorem l6In_c (n lo hi : Int) (w : World) : CallsR Try.prog 85 #[.int .i64 n, .int .i64 lo, .int .i64 hi] w (fun v w' => v = .bool (inR n lo hi) ∧ w.grownBy w' none) := by
 refine calls_of_wpf (n := 15) Try.func85 rfl Try.ntmps85 rfl ?_
 have hb0 := World.grownBy.refl w none
 refine wpf_seq_region ?_
 refine wpo_assign (v := .bool false) rfl rfl ?_
 refine wpo_nil ?_
 refine wpf_seq_region_mid (fun f' w' => (f' 6 = .bool ((decide (lo ≤ n)) && (decide (n ≤ hi)))) ∧ w = w') ?_ ?_
 ·
  refine wpo_move (v := .int .i64 n) rfl rfl ?_
  refine wpo_move (v := .int .i64 lo) rfl rfl ?_
  refine wpo_geq (q := decide (lo ≤ n)) rfl rfl rfl rfl ?_
  refine wpo_move (v := .bool (decide (lo ≤ n))) rfl rfl ?_
  rcases bcases (decide (lo ≤ n)) with h101 | h101
  ·
   have h102 := of_decide_eq_true h101
   refine wpo_run rfl rfl rfl h101 ?_
   refine wpo_move (v := .int .i64 n) rfl rfl ?_
   refine wpo_run rfl rfl rfl h101 ?_
   refine wpo_move (v := .int .i64 hi) rfl rfl ?_
   refine wpo_run rfl rfl rfl h101 ?_
   refine wpo_leq (q := decide (n ≤ hi)) rfl rfl rfl rfl ?_
   refine wpo_pickt (v := .bool (decide (n ≤ hi))) rfl h101 rfl rfl ?_
   refine wpo_assign (v := .bool (decide (n ≤ hi))) rfl rfl ?_
   exact wpo_nil ⟨(congrArg Value.bool (by first | (simp only [h101, b0, b1, b2, b3, b4, b5, b6, b7, b8, b9]; done) | simp [h101])), rfl⟩
  ·
   have h103 := of_decide_eq_false h101
   iterate 3 refine wpo_pass rfl rfl rfl h101 rfl ?_
   refine wpo_pickf (v := .bool false) rfl h101 rfl rfl ?_
   refine wpo_assign (v := .bool false) rfl rfl ?_
   exact wpo_nil ⟨(congrArg Value.bool (by first | (simp only [h101, b0, b1, b2, b3, b4, b5, b6, b7, b8, b9]; done) | simp [h101])), rfl⟩
 ·
  rintro f104 w105 ⟨e106, rfl⟩
  refine wpf_ret ?_
  refine ⟨.bool ((decide (lo ≤ n)) && (decide (n ≤ hi))), res1 rfl e106, ?_, hb0⟩
  rfl
theorem inRange_c (n lo hi : Int) (w : World) : CallsR Try.prog 69 #[.int .i64 n, .int .i64 lo, .int .i64 hi] w (fun v w' => v = .bool (inR n lo hi) ∧ w.grownBy w' none) := by
 refine calls_of_wpf (n := 15) Try.func69 rfl Try.ntmps69 rfl ?_
 have hb0 := World.grownBy.refl w none
 refine wpf_seq_region ?_
 refine wpo_assign (v := .bool false) rfl rfl ?_
 refine wpo_nil ?_
 refine wpf_seq_region_mid (fun f' w' => (f' 6 = .bool ((decide (lo ≤ n)) && (decide (n ≤ hi)))) ∧ w = w') ?_ ?_
 ·
  refine wpo_move (v := .int .i64 lo) rfl rfl ?_
  refine wpo_move (v := .int .i64 n) rfl rfl ?_
  refine wpo_leq (q := decide (lo ≤ n)) rfl rfl rfl rfl ?_
  refine wpo_move (v := .bool (decide (lo ≤ n))) rfl rfl ?_
  rcases bcases (decide (lo ≤ n)) with h101 | h101
  ·
   have h102 := of_decide_eq_true h101
   refine wpo_run rfl rfl rfl h101 ?_
   refine wpo_move (v := .int .i64 n) rfl rfl ?_
   refine wpo_run rfl rfl rfl h101 ?_
   refine wpo_move (v := .int .i64 hi) rfl rfl ?_
   refine wpo_run rfl rfl rfl h101 ?_
   refine wpo_leq (q := decide (n ≤ hi)) rfl rfl rfl rfl ?_
   refine wpo_pickt (v := .bool (decide (n ≤ hi))) rfl h101 rfl rfl ?_
   refine wpo_assign (v := .bool (decide (n ≤ hi))) rfl rfl ?_
   exact wpo_nil ⟨(congrArg Value.bool (by first | (simp only [h101, b0, b1, b2, b3, b4, b5, b6, b7, b8, b9]; done) | simp [h101])), rfl⟩
  ·
   have h103 := of_decide_eq_false h101
   iterate 3 refine wpo_pass rfl rfl rfl h101 rfl ?_
   refine wpo_pickf (v := .bool false) rfl h101 rfl rfl ?_
   refine wpo_assign (v := .bool false) rfl rfl ?_
   exact wpo_nil ⟨(congrArg Value.bool (by first | (simp only [h101, b0, b1, b2, b3, b4, b5, b6, b7, b8, b9]; done) | simp [h101])), rfl⟩
 ·
  rintro f104 w105 ⟨e106, rfl⟩
  refine wpf_ret ?_
  refine ⟨.bool ((decide (lo ≤ n)) && (decide (n ≤ hi))), res1 rfl e106, ?_, hb0⟩
  rfl
theorem sLabelOk_c (l : Lab) (w : World) : CallsR Try.prog 35 #[.agg #[.int .i64 l.s, .int .i64 l.v]] w (fun v w' => v = .bool (labelOk l) ∧ w.grownBy w' none) := by
 refine calls_of_wpf (n := 11) Try.func35 rfl Try.ntmps35 rfl ?_
 have hb0 := World.grownBy.refl w none
 refine wpf_seq_region ?_
 refine wpo_box (v := .agg #[.int .i64 l.s, .int .i64 l.v]) (cs := #[.int .i64 l.s, .int .i64 l.v]) rfl rfl rfl ?_
 intro B101 w102 hN103
 have hlB101 := hN_ge hN103 hb0
 have hb104 := low0 hb0 hN103.grw
 refine wpo_assign (v := .bool false) rfl rfl ?_
 refine wpo_nil ?_
 refine wpf_seq_region_mid (fun f' w' => (f' 2 = .bool (inR l.s 0 3 && inR l.v 0 3)) ∧ w102.grownBy w' none) ?_ ?_
 ·
  refine wpo_fieldAddr (o' := 0) fo_40_0 rfl rfl rfl ?_
  refine wpo_load1 (v := .int .i64 l.s) ot_3 rfl (hN103.blk.cell rfl) rfl ?_
  refine wpo_call (vs := [.int .i64 l.s, .int .i64 0, .int .i64 3]) gf_85 (args_cons rfl (args_cons rfl (args_cons rfl args_nil))) rfl (l6In_c l.s 0 3 _) ?_
  rintro _ w115 ⟨rfl, hg116⟩
  have hb117 := low0 hb104 hg116
  refine wpo_move (v := .bool (inR l.s 0 3)) rfl rfl ?_
  rcases bcases (inR l.s 0 3) with h118 | h118
  ·
   refine wpo_run rfl rfl rfl h118 ?_
   refine wpo_fieldAddr (o' := 1) fo_40_1 rfl rfl rfl ?_
   refine wpo_run rfl rfl rfl h118 ?_
   have k119 := (hN103.blk.grown0 hg116)
   refine wpo_load1 (v := .int .i64 l.v) ot_3 rfl (k119.cell rfl) rfl ?_
   refine wpo_run rfl rfl rfl h118 ?_
   refine wpo_call (vs := [.int .i64 l.v, .int .i64 0, .int .i64 3]) gf_85 (args_cons rfl (args_cons rfl (args_cons rfl args_nil))) rfl (l6In_c l.v 0 3 _) ?_
   rintro _ w120 ⟨rfl, hg121⟩
   have hb122 := low0 hb117 hg121
   refine wpo_pickt (v := .bool (inR l.v 0 3)) rfl h118 rfl rfl ?_
   refine wpo_assign (v := .bool (inR l.v 0 3)) rfl rfl ?_
   exact wpo_nil ⟨(congrArg Value.bool (by first | (simp only [h118, b0, b1, b2, b3, b4, b5, b6, b7, b8, b9]; done) | simp [h118])), (grown_trans hg116 hg121)⟩
  ·
   iterate 3 refine wpo_pass rfl rfl rfl h118 rfl ?_
   refine wpo_pickf (v := .bool false) rfl h118 rfl rfl ?_
   refine wpo_assign (v := .bool false) rfl rfl ?_
   exact wpo_nil ⟨(congrArg Value.bool (by first | (simp only [h118, b0, b1, b2, b3, b4, b5, b6, b7, b8, b9]; done) | simp [h118])), hg116⟩
 ·
  rintro f123 w124 ⟨e125, hg126⟩
  have hb127 := low0 hb104 hg126
  refine wpf_ret ?_
  refine ⟨.bool (inR l.s 0 3 && inR l.v 0 3), res1 rfl e125, ?_, hb127⟩
  rfl
theorem l1In_c (a b : Int) (ha : 0 ≤ a ∧ a ≤ 3) (hb : 0 ≤ b ∧ b ≤ 3) (w : World) : CallsR Try.prog 105 #[.int .i64 a, .int .i64 b] w (fun v w' => v = .bool (l1In a b) ∧ w.grownBy w' none) := by
 refine calls_of_wpf (n := 17) Try.func105 rfl Try.ntmps105 rfl ?_
 have hb0 := World.grownBy.refl w none
 refine wpf_seq_region ?_
 refine wpo_assign (v := .bool false) rfl rfl ?_
 refine wpo_nil ?_
 refine wpf_seq_region_mid (fun f' w' => (f' 4 = .bool ((decide (a % 2 ≤ b % 2)) && (decide (a / 2 ≤ b / 2)))) ∧ w = w') ?_ ?_
 ·
  refine wpo_move (v := .int .i64 a) rfl rfl ?_
  refine wpo_rem (c := a % 2) rfl rfl (by omega) (by omega) (by omega) rfl rfl ?_
  refine wpo_move (v := .int .i64 b) rfl rfl ?_
  refine wpo_rem (c := b % 2) rfl rfl (by omega) (by omega) (by omega) rfl rfl ?_
  refine wpo_leq (q := decide (a % 2 ≤ b % 2)) rfl rfl rfl rfl ?_
  refine wpo_move (v := .bool (decide (a % 2 ≤ b % 2))) rfl rfl ?_
  rcases bcases (decide (a % 2 ≤ b % 2)) with h101 | h101
  ·
   have h102 := of_decide_eq_true h101
   refine wpo_run rfl rfl rfl h101 ?_
   refine wpo_move (v := .int .i64 a) rfl rfl ?_
   refine wpo_run rfl rfl rfl h101 ?_
   refine wpo_quo (c := a / 2) rfl rfl (by omega) (by omega) (by omega) rfl rfl ?_
   refine wpo_run rfl rfl rfl h101 ?_
   refine wpo_move (v := .int .i64 b) rfl rfl ?_
   refine wpo_run rfl rfl rfl h101 ?_
   refine wpo_quo (c := b / 2) rfl rfl (by omega) (by omega) (by omega) rfl rfl ?_
   refine wpo_run rfl rfl rfl h101 ?_
   refine wpo_leq (q := decide (a / 2 ≤ b / 2)) rfl rfl rfl rfl ?_
   refine wpo_pickt (v := .bool (decide (a / 2 ≤ b / 2))) rfl h101 rfl rfl ?_
   refine wpo_assign (v := .bool (decide (a / 2 ≤ b / 2))) rfl rfl ?_
   exact wpo_nil ⟨(congrArg Value.bool (by first | (simp only [h101, b0, b1, b2, b3, b4, b5, b6, b7, b8, b9]; done) | simp [h101])), rfl⟩
  ·
   have h103 := of_decide_eq_false h101
   iterate 5 refine wpo_pass rfl rfl rfl h101 rfl ?_
   refine wpo_pickf (v := .bool false) rfl h101 rfl rfl ?_
   refine wpo_assign (v := .bool false) rfl rfl ?_
   exact wpo_nil ⟨(congrArg Value.bool (by first | (simp only [h101, b0, b1, b2, b3, b4, b5, b6, b7, b8, b9]; done) | simp [h101])), rfl⟩
 ·
  rintro f104 w105 ⟨e106, rfl⟩
  refine wpf_ret ?_
  refine ⟨.bool ((decide (a % 2 ≤ b % 2)) && (decide (a / 2 ≤ b / 2))), res1 rfl e106, ?_, hb0⟩
  rfl
theorem l1Flow_c (a b : Lab) (hla : labelOk a = true) (hlb : labelOk b = true) (w : World) : CallsR Try.prog 86 #[.agg #[.int .i64 a.s, .int .i64 a.v], .agg #[.int .i64 b.s, .int .i64 b.v]] w (fun v w' => v = .bool (flow a b) ∧ w.grownBy w' none) := by
 refine calls_of_wpf (n := 17) Try.func86 rfl Try.ntmps86 rfl ?_
 have hb0 := World.grownBy.refl w none
 obtain ⟨⟨ha1, ha2⟩, ha3, ha4⟩ := (labelOk_iff a).1 hla
 obtain ⟨⟨hc1, hc2⟩, hc3, hc4⟩ := (labelOk_iff b).1 hlb
 refine wpf_seq_region ?_
 refine wpo_box (v := .agg #[.int .i64 a.s, .int .i64 a.v]) (cs := #[.int .i64 a.s, .int .i64 a.v]) rfl rfl rfl ?_
 intro B101 w102 hN103
 have hlB101 := hN_ge hN103 hb0
 have hb104 := low0 hb0 hN103.grw
 refine wpo_box (v := .agg #[.int .i64 b.s, .int .i64 b.v]) (cs := #[.int .i64 b.s, .int .i64 b.v]) rfl rfl rfl ?_
 intro B105 w106 hN107
 have hlB105 := hN_ge hN107 hb104
 have lt_B101_B105 := hN_gtl hN107 (hN103.blk).lt
 have hb108 := low0 hb104 hN107.grw
 refine wpo_assign (v := .bool false) rfl rfl ?_
 refine wpo_nil ?_
 refine wpf_seq_region_mid (fun f' w' => (f' 4 = .bool (l1In a.s b.s && l1In b.v a.v)) ∧ w106.grownBy w' none) ?_ ?_
 ·
  refine wpo_fieldAddr (o' := 0) fo_40_0 rfl rfl rfl ?_
  have k122 := (hN103.blk.grown0 hN107.grw)
  refine wpo_load1 (v := .int .i64 a.s) ot_3 rfl (k122.cell rfl) rfl ?_
  refine wpo_fieldAddr (o' := 0) fo_40_0 rfl rfl rfl ?_
  refine wpo_load1 (v := .int .i64 b.s) ot_3 rfl (hN107.blk.cell rfl) rfl ?_
  refine wpo_call (vs := [.int .i64 a.s, .int .i64 b.s]) gf_105 (args_cons rfl (args_cons rfl args_nil)) rfl (l1In_c a.s b.s (by omega) (by omega) _) ?_
  rintro _ w123 ⟨rfl, hg124⟩
  have hb125 := low0 hb108 hg124
  refine wpo_move (v := .bool (l1In a.s b.s)) rfl rfl ?_
  rcases bcases (l1In a.s b.s) with h126 | h126
  ·
   refine wpo_run rfl rfl rfl h126 ?_
   refine wpo_fieldAddr (o' := 1) fo_40_1 rfl rfl rfl ?_
   refine wpo_run rfl rfl rfl h126 ?_
   have k127 := (hN107.blk.grown0 hg124)
   refine wpo_load1 (v := .int .i64 b.v) ot_3 rfl (k127.cell rfl) rfl ?_
   refine wpo_run rfl rfl rfl h126 ?_
   refine wpo_fieldAddr (o' := 1) fo_40_1 rfl rfl rfl ?_
   refine wpo_run rfl rfl rfl h126 ?_
   have k128 := (k122.grown0 hg124)
   refine wpo_load1 (v := .int .i64 a.v) ot_3 rfl (k128.cell rfl) rfl ?_
   refine wpo_run rfl rfl rfl h126 ?_
   refine wpo_call (vs := [.int .i64 b.v, .int .i64 a.v]) gf_105 (args_cons rfl (args_cons rfl args_nil)) rfl (l1In_c b.v a.v (by omega) (by omega) _) ?_
   rintro _ w129 ⟨rfl, hg130⟩
   have hb131 := low0 hb125 hg130
   refine wpo_pickt (v := .bool (l1In b.v a.v)) rfl h126 rfl rfl ?_
   refine wpo_assign (v := .bool (l1In b.v a.v)) rfl rfl ?_
   exact wpo_nil ⟨(congrArg Value.bool (by first | (simp only [h126, b0, b1, b2, b3, b4, b5, b6, b7, b8, b9]; done) | simp [h126])), (grown_trans hg124 hg130)⟩
  ·
   iterate 5 refine wpo_pass rfl rfl rfl h126 rfl ?_
   refine wpo_pickf (v := .bool false) rfl h126 rfl rfl ?_
   refine wpo_assign (v := .bool false) rfl rfl ?_
   exact wpo_nil ⟨(congrArg Value.bool (by first | (simp only [h126, b0, b1, b2, b3, b4, b5, b6, b7, b8, b9]; done) | simp [h126])), hg124⟩
 ·
  rintro f132 w133 ⟨e134, hg135⟩
  have hb136 := low0 hb108 hg135
  refine wpf_ret ?_
  refine ⟨.bool (l1In a.s b.s && l1In b.v a.v), res1 rfl e134, ?_, hb136⟩
  rfl
theorem sRightOk_c (r : Rt) (w : World) : CallsR Try.prog 54 #[.agg #[.int .i64 r.th, .int .i64 r.ve, .bool r.rd, .bool r.wr, .bool r.wk]] w (fun v w' => v = .bool (rightOk r) ∧ w.grownBy w' none) := by
 refine calls_of_wpf (n := 26) Try.func54 rfl Try.ntmps54 rfl ?_
 have hb0 := World.grownBy.refl w none
 refine wpf_seq_region ?_
 refine wpo_box (v := .agg #[.int .i64 r.th, .int .i64 r.ve, .bool r.rd, .bool r.wr, .bool r.wk]) (cs := #[.int .i64 r.th, .int .i64 r.ve, .bool r.rd, .bool r.wr, .bool r.wk]) rfl rfl rfl ?_
 intro B101 w102 hN103
 have hlB101 := hN_ge hN103 hb0
 have hb104 := low0 hb0 hN103.grw
 refine wpo_assign (v := .bool false) rfl rfl ?_
 refine wpo_nil ?_
 refine wpf_seq ?_
 refine wpf_seq_region ?_
 refine wpo_fieldAddr (o' := 0) fo_29_0 rfl rfl rfl ?_
 refine wpo_load1 (v := .int .i64 r.th) ot_3 rfl (hN103.blk.cell rfl) rfl ?_
 refine wpo_eql (q := decide (r.th = 0)) rfl rfl rfl rfl ?_
 refine wpo_nil ?_
 refine wpf_cond rfl (fun h105 => ?_) (fun h105 => ?_)
 ·
  have h106 := of_decide_eq_true h105
  refine wpf_seq_region ?_
  refine wpo_loadn (vs := [.int .i64 r.th, .int .i64 r.ve, .bool r.rd, .bool r.wr, .bool r.wk]) rt_29 rfl rfl (hN103.blk.rangeL 0 5 rfl) rfl ?_
  refine wpo_build (ps := []) (v := .agg #[.int .i64 0, .int .i64 0, .bool false, .bool false, .bool false]) parts_nil (by kernel_rfl) rfl ?_
  refine wpo_eqs (q := decide (r = Rt.zero)) rfl rfl (eqG_29 _ _ r Rt.zero _) (eqV_29 r Rt.zero _) rfl rfl ?_
  refine wpo_assign (v := .bool (decide (r = Rt.zero))) rfl rfl ?_
  refine wpo_nil ?_
  refine wpf_ret ?_
  refine thn_r ?_
  refine ⟨.bool (decide (r = Rt.zero)), res1 rfl rfl, ?_, hb104⟩
  exact congrArg Value.bool (rightOk_z h105)
 ·
  have h107 := of_decide_eq_false h105
  refine wpf_skip ?_
  refine thn_n ?_
  refine wpf_seq_region_mid (fun f' w' => (f' 2 = .bool ((inR r.th 1 8 && inR r.ve 0 5) && (!(r.wk && r.wr)))) ∧ w102.grownBy w' none) ?_ ?_
  ·
   refine wpo_fieldAddr (o' := 0) fo_29_0 rfl rfl rfl ?_
   refine wpo_load1 (v := .int .i64 r.th) ot_3 rfl (hN103.blk.cell rfl) rfl ?_
   refine wpo_call (vs := [.int .i64 r.th, .int .i64 1, .int .i64 8]) gf_85 (args_cons rfl (args_cons rfl (args_cons rfl args_nil))) rfl (l6In_c r.th 1 8 _) ?_
   rintro _ w119 ⟨rfl, hg120⟩
   have hb121 := low0 hb104 hg120
   refine wpo_move (v := .bool (inR r.th 1 8)) rfl rfl ?_
   rcases bcases (inR r.th 1 8) with h122 | h122
   ·
    refine wpo_run rfl rfl rfl h122 ?_
    refine wpo_fieldAddr (o' := 1) fo_29_1 rfl rfl rfl ?_
    refine wpo_run rfl rfl rfl h122 ?_
    have k123 := (hN103.blk.grown0 hg120)
    refine wpo_load1 (v := .int .i64 r.ve) ot_3 rfl (k123.cell rfl) rfl ?_
    refine wpo_run rfl rfl rfl h122 ?_
    refine wpo_call (vs := [.int .i64 r.ve, .int .i64 0, .int .i64 5]) gf_85 (args_cons rfl (args_cons rfl (args_cons rfl args_nil))) rfl (l6In_c r.ve 0 5 _) ?_
    rintro _ w124 ⟨rfl, hg125⟩
    have hb126 := low0 hb121 hg125
    refine wpo_pickt (v := .bool (inR r.ve 0 5)) rfl h122 rfl rfl ?_
    refine wpo_move (v := .bool (inR r.ve 0 5)) rfl rfl ?_
    rcases bcases (inR r.ve 0 5) with h127 | h127
    ·
     refine wpo_run rfl rfl rfl h127 ?_
     refine wpo_fieldAddr (o' := 4) fo_29_4 rfl rfl rfl ?_
     refine wpo_run rfl rfl rfl h127 ?_
     have k128 := (k123.grown0 hg125)
     refine wpo_load1 (v := .bool r.wk) ot_4 rfl (k128.cell rfl) rfl ?_
     refine wpo_run rfl rfl rfl h127 ?_
     refine wpo_move (v := .bool r.wk) rfl rfl ?_
     rcases bcases (r.wk) with h129 | h129
     ·
      refine wpo_run rfl rfl rfl h129 ?_
      refine wpo_fieldAddr (o' := 3) fo_29_3 rfl rfl rfl ?_
      refine wpo_run rfl rfl rfl h129 ?_
      refine wpo_load1 (v := .bool r.wr) ot_4 rfl (k128.cell rfl) rfl ?_
      refine wpo_run rfl rfl rfl h127 ?_
      refine wpo_pickt (v := .bool r.wr) rfl h129 rfl rfl ?_
      refine wpo_run rfl rfl rfl h127 ?_
      refine wpo_not (b' := !r.wr) rfl rfl rfl ?_
      refine wpo_pickt (v := .bool (!r.wr)) rfl h127 rfl rfl ?_
      refine wpo_assign (v := .bool (!r.wr)) rfl rfl ?_
      exact wpo_nil ⟨(congrArg Value.bool (by first | (simp only [h105, h122, h127, h129, b0, b1, b2, b3, b4, b5, b6, b7, b8, b9]; done) | simp [h105, h122, h127, h129])), (grown_trans hg120 hg125)⟩
     ·
      refine wpo_pass rfl rfl rfl h129 rfl ?_
      refine wpo_pass rfl rfl rfl h129 rfl ?_
      refine wpo_run rfl rfl rfl h127 ?_
      refine wpo_pickf (v := .bool false) rfl h129 rfl rfl ?_
      refine wpo_run rfl rfl rfl h127 ?_
      refine wpo_not (b' := true) rfl rfl rfl ?_
      refine wpo_pickt (v := .bool true) rfl h127 rfl rfl ?_
      refine wpo_assign (v := .bool true) rfl rfl ?_
      exact wpo_nil ⟨(congrArg Value.bool (by first | (simp only [h105, h122, h127, h129, b0, b1, b2, b3, b4, b5, b6, b7, b8, b9]; done) | simp [h105, h122, h127, h129])), (grown_trans hg120 hg125)⟩
    ·
     iterate 3 refine wpo_pass rfl rfl rfl h127 rfl ?_
     refine wpo_passu rfl rfl rfl rfl ?_
     refine wpo_passu rfl rfl rfl rfl ?_
     refine wpo_pass rfl rfl rfl h127 rfl ?_
     refine wpo_pass rfl rfl rfl h127 rfl ?_
     refine wpo_pickf (v := .bool false) rfl h127 rfl rfl ?_
     refine wpo_assign (v := .bool false) rfl rfl ?_
     exact wpo_nil ⟨(congrArg Value.bool (by first | (simp only [h105, h122, h127, b0, b1, b2, b3, b4, b5, b6, b7, b8, b9]; done) | simp [h105, h122, h127])), (grown_trans hg120 hg125)⟩
   ·
    iterate 3 refine wpo_pass rfl rfl rfl h122 rfl ?_
    refine wpo_pickf (v := .bool false) rfl h122 rfl rfl ?_
    refine wpo_move (v := .bool false) rfl rfl ?_
    iterate 3 refine wpo_pass rfl rfl rfl rfl rfl ?_
    refine wpo_passu rfl rfl rfl rfl ?_
    refine wpo_passu rfl rfl rfl rfl ?_
    refine wpo_pass rfl rfl rfl rfl rfl ?_
    refine wpo_pass rfl rfl rfl rfl rfl ?_
    refine wpo_pickf (v := .bool false) rfl rfl rfl rfl ?_
    refine wpo_assign (v := .bool false) rfl rfl ?_
    exact wpo_nil ⟨(congrArg Value.bool (by first | (simp only [h105, h122, b0, b1, b2, b3, b4, b5, b6, b7, b8, b9]; done) | simp [h105, h122])), hg120⟩
  ·
   rintro f130 w131 ⟨e132, hg133⟩
   have hb134 := low0 hb104 hg133
   refine wpf_ret ?_
   refine ⟨.bool ((inR r.th 1 8 && inR r.ve 0 5) && (!(r.wk && r.wr))), res1 rfl e132, ?_, hb134⟩
   exact congrArg Value.bool (rightOk_n h105)
theorem l2Less_c (r : Rt) (a b c : Bool) (w : World) : CallsR Try.prog 100 #[.agg #[.int .i64 r.th, .int .i64 r.ve, .bool r.rd, .bool r.wr, .bool r.wk], .bool a, .bool b, .bool c] w (fun v w' => v = .agg #[.int .i64 (l2Less r a b c).th, .int .i64 (l2Less r a b c).ve, .bool (l2Less r a b c).rd, .bool (l2Less r a b c).wr, .bool (l2Less r a b c).wk] ∧ w.grownBy w' none) := by
 refine calls_of_wpf (n := 36) Try.func100 rfl Try.ntmps100 rfl ?_
 have hb0 := World.grownBy.refl w none
 refine wpf_seq_region ?_
 refine wpo_box (v := .agg #[.int .i64 r.th, .int .i64 r.ve, .bool r.rd, .bool r.wr, .bool r.wk]) (cs := #[.int .i64 r.th, .int .i64 r.ve, .bool r.rd, .bool r.wr, .bool r.wk]) rfl rfl rfl ?_
 intro B101 w102 hN103
 have hlB101 := hN_ge hN103 hb0
 have hb104 := low0 hb0 hN103.grw
 refine wpo_alloc (cs := #[.int .i64 0, .int .i64 0, .bool false, .bool false, .bool false]) zt_29 rfl rfl ?_
 intro B105 w106 hN107
 have hlB105 := hN_ge hN107 hb104
 have lt_B101_B105 := hN_gtl hN107 (hN103.blk).lt
 have hb108 := low0 hb104 hN107.grw
 refine wpo_nil ?_
 refine wpf_seq ?_
 refine wpf_seq_region ?_
 refine wpo_fieldAddr (o' := 0) fo_29_0 rfl rfl rfl ?_
 have k109 := (hN103.blk.grown0 hN107.grw)
 refine wpo_load1 (v := .int .i64 r.th) ot_3 rfl (k109.cell rfl) rfl ?_
 refine wpo_eql (q := decide (r.th = 0)) rfl rfl rfl rfl ?_
 refine wpo_nil ?_
 refine wpf_cond rfl (fun h110 => ?_) (fun h110 => ?_)
 ·
  have h111 := of_decide_eq_true h110
  refine wpf_seq_region ?_
  refine wpo_loadn (vs := [.int .i64 r.th, .int .i64 r.ve, .bool r.rd, .bool r.wr, .bool r.wk]) rt_29 rfl rfl (k109.rangeL 0 5 rfl) rfl ?_
  refine wpo_storen (vs := [.int .i64 r.th, .int .i64 r.ve, .bool r.rd, .bool r.wr, .bool r.wk]) (cs' := #[.int .i64 r.th, .int .i64 r.ve, .bool r.rd, .bool r.wr, .bool r.wk]) rt_29 rfl rfl rfl (by simp [Value.oneCell']) hN107.blk (Nat.le_of_ble_eq_true rfl) rfl ?_
  intro w112 hS113
  have hb114 := low1 hb108 hS113.grw (by omega)
  refine wpo_nil ?_
  refine wpf_ret ?_
  refine thn_r ?_
  refine ⟨.agg #[.int .i64 r.th, .int .i64 r.ve, .bool r.rd, .bool r.wr, .bool r.wk], resC rfl (resCell_mk (vs := [.int .i64 r.th, .int .i64 r.ve, .bool r.rd, .bool r.wr, .bool r.wk]) rt_29 rfl rfl (hS113.blk.rangeL 0 5 rfl)), ?_, hb114⟩
  rw [l2Less_z h110]
 ·
  have h115 := of_decide_eq_false h110
  refine wpf_skip ?_
  refine thn_n ?_
  refine wpf_seq_region ?_
  refine wpo_at 5 (fun f' w' => (f' 2 = .bool b ∧ f' 3 = .bool c ∧ f' 4 = .pointer (some ⟨B101, 0, none⟩) ∧ f' 8 = .pointer (some ⟨B105, 0, none⟩) ∧ f' 17 = .bool (r.rd && a)) ∧ w106 = w') ?_ ?_
  ·
   simp only [List.take_succ_cons, List.take_zero]
   refine wpo_fieldAddr (o' := 2) fo_29_2 rfl rfl rfl ?_
   refine wpo_load1 (v := .bool r.rd) ot_4 rfl (k109.cell rfl) rfl ?_
   refine wpo_move (v := .bool r.rd) rfl rfl ?_
   rcases bcases (r.rd) with h116 | h116
   ·
    refine wpo_run rfl rfl rfl h116 ?_
    refine wpo_move (v := .bool a) rfl rfl ?_
    refine wpo_pickt (v := .bool a) rfl h116 rfl rfl ?_
    exact wpo_nil ⟨⟨rfl, rfl, rfl, rfl, (congrArg Value.bool (by first | (simp only [h110, h116, b0, b1, b2, b3, b4, b5, b6, b7, b8, b9]; done) | simp [h110, h116]))⟩, rfl⟩
   ·
    refine wpo_pass rfl rfl rfl h116 rfl ?_
    refine wpo_pickf (v := .bool false) rfl h116 rfl rfl ?_
    exact wpo_nil ⟨⟨rfl, rfl, rfl, rfl, (congrArg Value.bool (by first | (simp only [h110, h116, b0, b1, b2, b3, b4, b5, b6, b7, b8, b9]; done) | simp [h110, h116]))⟩, rfl⟩
  ·
   rintro f117 w118 ⟨⟨e119, e120, e121, e122, e123⟩, rfl⟩
   simp only [List.drop_succ_cons, List.drop_zero]
   refine wpo_fieldAddr (o' := 2) fo_29_2 e121 rfl rfl ?_
   refine wpo_store1 (v := .bool (r.rd && a)) (cs' := #[.int .i64 r.th, .int .i64 r.ve, .bool (r.rd && a), .bool r.wr, .bool r.wk]) ot_4 rfl e123 rfl k109 (Nat.le_of_ble_eq_true rfl) rfl ?_
   intro w124 hS125
   have hb126 := low1 hb108 hS125.grw (by omega)
   refine wpo_nil ?_
   refine wpf_seq_region ?_
   refine wpo_at 8 (fun f' w' => (f' 3 = .bool c ∧ f' 4 = .pointer (some ⟨B101, 0, none⟩) ∧ f' 8 = .pointer (some ⟨B105, 0, none⟩) ∧ f' 26 = .bool ((r.wr && b) && c)) ∧ w124 = w') ?_ ?_
   ·
    simp only [List.take_succ_cons, List.take_zero]
    refine wpo_fieldAddr (o' := 3) fo_29_3 e121 rfl rfl ?_
    refine wpo_load1 (v := .bool r.wr) ot_4 rfl (hS125.blk.cell rfl) rfl ?_
    refine wpo_move (v := .bool r.wr) rfl rfl ?_
    rcases bcases (r.wr) with h127 | h127
    ·
     refine wpo_run rfl rfl rfl h127 ?_
     refine wpo_move (v := .bool b) e119 rfl ?_
     refine wpo_pickt (v := .bool b) rfl h127 rfl rfl ?_
     refine wpo_move (v := .bool b) rfl rfl ?_
     rcases bcases (b) with h128 | h128
     ·
      refine wpo_run rfl rfl rfl h128 ?_
      refine wpo_move (v := .bool c) e120 rfl ?_
      refine wpo_pickt (v := .bool c) rfl h128 rfl rfl ?_
      exact wpo_nil ⟨⟨e120, e121, e122, (congrArg Value.bool (by first | (simp only [h110, h127, h128, b0, b1, b2, b3, b4, b5, b6, b7, b8, b9]; done) | simp [h110, h127, h128]))⟩, rfl⟩
     ·
      refine wpo_pass rfl rfl rfl h128 rfl ?_
      refine wpo_pickf (v := .bool false) rfl h128 rfl rfl ?_
      exact wpo_nil ⟨⟨e120, e121, e122, (congrArg Value.bool (by first | (simp only [h110, h127, h128, b0, b1, b2, b3, b4, b5, b6, b7, b8, b9]; done) | simp [h110, h127, h128]))⟩, rfl⟩
    ·
     refine wpo_pass rfl rfl rfl h127 rfl ?_
     refine wpo_pickf (v := .bool false) rfl h127 rfl rfl ?_
     refine wpo_move (v := .bool false) rfl rfl ?_
     refine wpo_pass rfl rfl rfl rfl rfl ?_
     refine wpo_pickf (v := .bool false) rfl rfl rfl rfl ?_
     exact wpo_nil ⟨⟨e120, e121, e122, (congrArg Value.bool (by first | (simp only [h110, h127, b0, b1, b2, b3, b4, b5, b6, b7, b8, b9]; done) | simp [h110, h127]))⟩, rfl⟩
   ·
    rintro f129 w130 ⟨⟨e131, e132, e133, e134⟩, rfl⟩
    simp only [List.drop_succ_cons, List.drop_zero]
    refine wpo_fieldAddr (o' := 3) fo_29_3 e132 rfl rfl ?_
    refine wpo_store1 (v := .bool ((r.wr && b) && c)) (cs' := #[.int .i64 r.th, .int .i64 r.ve, .bool (r.rd && a), .bool ((r.wr && b) && c), .bool r.wk]) ot_4 rfl e134 rfl hS125.blk (Nat.le_of_ble_eq_true rfl) rfl ?_
    intro w135 hS136
    have hb137 := low1 hb126 hS136.grw (by omega)
    refine wpo_nil ?_
    refine wpf_seq_region ?_
    refine wpo_at 6 (fun f' w' => (f' 4 = .pointer (some ⟨B101, 0, none⟩) ∧ f' 8 = .pointer (some ⟨B105, 0, none⟩) ∧ f' 33 = .bool (r.wk || (!c))) ∧ w135 = w') ?_ ?_
    ·
     simp only [List.take_succ_cons, List.take_zero]
     refine wpo_fieldAddr (o' := 4) fo_29_4 e132 rfl rfl ?_
     refine wpo_load1 (v := .bool r.wk) ot_4 rfl (hS136.blk.cell rfl) rfl ?_
     refine wpo_move (v := .bool r.wk) rfl rfl ?_
     rcases bcases (r.wk) with h138 | h138
     ·
      refine wpo_pass rfl rfl rfl h138 rfl ?_
      refine wpo_pass rfl rfl rfl h138 rfl ?_
      refine wpo_pickt (v := .bool true) rfl h138 rfl rfl ?_
      exact wpo_nil ⟨⟨e132, e133, (congrArg Value.bool (by first | (simp only [h110, h138, b0, b1, b2, b3, b4, b5, b6, b7, b8, b9]; done) | simp [h110, h138]))⟩, rfl⟩
     ·
      refine wpo_run rfl rfl rfl h138 ?_
      refine wpo_move (v := .bool c) e131 rfl ?_
      refine wpo_run rfl rfl rfl h138 ?_
      refine wpo_not (b' := !c) rfl rfl rfl ?_
      refine wpo_pickf (v := .bool (!c)) rfl h138 rfl rfl ?_
      exact wpo_nil ⟨⟨e132, e133, (congrArg Value.bool (by first | (simp only [h110, h138, b0, b1, b2, b3, b4, b5, b6, b7, b8, b9]; done) | simp [h110, h138]))⟩, rfl⟩
    ·
     rintro f139 w140 ⟨⟨e141, e142, e143⟩, rfl⟩
     simp only [List.drop_succ_cons, List.drop_zero]
     refine wpo_fieldAddr (o' := 4) fo_29_4 e141 rfl rfl ?_
     refine wpo_store1 (v := .bool (r.wk || (!c))) (cs' := #[.int .i64 r.th, .int .i64 r.ve, .bool (r.rd && a), .bool ((r.wr && b) && c), .bool (r.wk || (!c))]) ot_4 rfl e143 rfl hS136.blk (Nat.le_of_ble_eq_true rfl) rfl ?_
     intro w144 hS145
     have hb146 := low1 hb137 hS145.grw (by omega)
     refine wpo_nil ?_
     refine wpf_seq_region ?_
     refine wpo_loadn (vs := [.int .i64 r.th, .int .i64 r.ve, .bool (r.rd && a), .bool ((r.wr && b) && c), .bool (r.wk || (!c))]) rt_29 e141 rfl (hS145.blk.rangeL 0 5 rfl) rfl ?_
     have k147 := (((hN107.blk.grown hS125.grw (some_ne (by omega))).grown hS136.grw (some_ne (by omega))).grown hS145.grw (some_ne (by omega)))
     refine wpo_storen (vs := [.int .i64 r.th, .int .i64 r.ve, .bool (r.rd && a), .bool ((r.wr && b) && c), .bool (r.wk || (!c))]) (cs' := #[.int .i64 r.th, .int .i64 r.ve, .bool (r.rd && a), .bool ((r.wr && b) && c), .bool (r.wk || (!c))]) rt_29 e142 rfl rfl (by simp [Value.oneCell']) k147 (Nat.le_of_ble_eq_true rfl) rfl ?_
     intro w148 hS149
     have hb150 := low1 hb146 hS149.grw (by omega)
     refine wpo_nil ?_
     refine wpf_ret ?_
     refine ⟨.agg #[.int .i64 r.th, .int .i64 r.ve, .bool (r.rd && a), .bool ((r.wr && b) && c), .bool (r.wk || (!c))], resC rfl (resCell_mk (vs := [.int .i64 r.th, .int .i64 r.ve, .bool (r.rd && a), .bool ((r.wr && b) && c), .bool (r.wk || (!c))]) rt_29 e142 rfl (hS149.blk.rangeL 0 5 rfl)), ?_, hb150⟩
     rw [l2Less_n h110]
theorem es_27 : elemSz Try.prog 27 = some 5 := by kernel_rfl
theorem gf_20 : goFn Try.prog 20 = true := by kernel_rfl
theorem mk_27 : mkTy Try.prog 27 = some (29, 5, 24, some (.agg #[.int .i64 0, .int .i64 0, .bool false, .bool false, .bool false])) := by kernel_rfl
theorem es_33 : elemSz Try.prog 33 = some 1 := by kernel_rfl
theorem es_43 : elemSz Try.prog 43 = some 1 := by kernel_rfl
theorem fo_121_0 : fieldOff Try.prog 121 0 = some 0 := by kernel_rfl
theorem fo_121_1 : fieldOff Try.prog 121 1 = some 1 := by kernel_rfl
theorem gf_59 : goFn Try.prog 59 = true := by kernel_rfl
theorem gf_60 : goFn Try.prog 60 = true := by kernel_rfl
theorem gf_61 : goFn Try.prog 61 = true := by kernel_rfl
theorem ot_33 : oneTy Try.prog 33 = true := by kernel_rfl
theorem ot_5 : oneTy Try.prog 5 = true := by kernel_rfl
theorem pick_c (p n : Int) (hp : 0 ≤ p ∧ p ≤ 1099511627776) (lo R : Nat) (bs : List Int) (a : Option Addr) (c : Nat) (w : World) (hR : Blk w R 121 #[.slice a bs.length c, .int .i64 p]) (hlo : lo ≤ R) (hs : SlLt lo w a 1 (bs.map bcell)) (hb : ∀ b ∈ bs, 0 ≤ b ∧ b ≤ 255) (hn : bs.length ≤ 1048576) : CallsR Try.prog 60 #[.pointer (some ⟨R, 0, none⟩), .int .i64 n] w (fun v w' => ∃ k : Int, v = .int .i64 k ∧ 0 ≤ k ∧ (k < n ∨ k = 0) ∧ Blk w' R 121 #[.slice a bs.length c, .int .i64 (p + 1)] ∧ w.grownBy w' (some R)) := by
 refine calls_of_wpf (n := 99) Try.func60 rfl Try.ntmps60 rfl ?_
 have hb0 := World.grownBy.refl w (some R)
 have hRlt := hR.lt
 refine wpf_seq_region ?_
 refine wpo_assign (v := .int .i64 0) rfl rfl ?_
 refine wpo_nil ?_
 refine wpf_seq_region ?_
 refine wpo_move (v := .pointer (some ⟨R, 0, none⟩)) rfl rfl ?_
 refine wpo_move (v := .pointer (some ⟨R, 0, none⟩)) rfl rfl ?_
 refine wpo_nilCheck rfl rfl ?_
 refine wpo_fieldAddr (o' := 1) fo_121_1 rfl rfl rfl ?_
 refine wpo_load1 (v := .int .i64 p) ot_3 rfl (hR.cell rfl) rfl ?_
 refine wpo_add (c := p + 1) rfl rfl (by omega) (by omega) (by omega) rfl ?_
 refine wpo_nilCheck rfl rfl ?_
 refine wpo_fieldAddr (o' := 1) fo_121_1 rfl rfl rfl ?_
 refine wpo_store1 (v := .int .i64 (p + 1)) (cs' := #[.slice a bs.length c, .int .i64 (p + 1)]) ot_3 rfl rfl rfl hR (Nat.le_of_ble_eq_true rfl) rfl ?_
 intro w101 hS102
 have hb103 := grown_trans hb0 hS102.grw
 refine wpo_nil ?_
 refine wpf_seq ?_
 refine wpf_seq_region_mid (fun f' w' => (f' 0 = .pointer (some ⟨R, 0, none⟩) ∧ f' 1 = .int .i64 n ∧ f' 4 = .int .i64 0 ∧ f' 24 = .bool ((decide (n < 1)) || (decide ((bs.length : Int) = 0)))) ∧ w101 = w') ?_ ?_
 ·
  refine wpo_move (v := .int .i64 n) rfl rfl ?_
  refine wpo_lss (q := decide (n < 1)) rfl rfl rfl rfl ?_
  refine wpo_move (v := .bool (decide (n < 1))) rfl rfl ?_
  rcases bcases (decide (n < 1)) with h104 | h104
  ·
   have h105 := of_decide_eq_true h104
   iterate 6 refine wpo_pass rfl rfl rfl h104 rfl ?_
   refine wpo_pickt (v := .bool true) rfl h104 rfl rfl ?_
   exact wpo_nil ⟨⟨rfl, rfl, rfl, (congrArg Value.bool (by first | (simp only [h104, b0, b1, b2, b3, b4, b5, b6, b7, b8, b9]; done) | simp [h104]))⟩, rfl⟩
  ·
   have h106 := of_decide_eq_false h104
   refine wpo_run rfl rfl rfl h104 ?_
   refine wpo_move (v := .pointer (some ⟨R, 0, none⟩)) rfl rfl ?_
   refine wpo_run rfl rfl rfl h104 ?_
   refine wpo_nilCheck rfl rfl ?_
   refine wpo_run rfl rfl rfl h104 ?_
   refine wpo_fieldAddr (o' := 0) fo_121_0 rfl rfl rfl ?_
   refine wpo_run rfl rfl rfl h104 ?_
   refine wpo_load1 (v := .slice a bs.length c) ot_33 rfl (hS102.blk.cell rfl) rfl ?_
   refine wpo_run rfl rfl rfl h104 ?_
   refine wpo_len (by kernel_rfl) rfl rfl ?_
   refine wpo_run rfl rfl rfl h104 ?_
   refine wpo_eql (q := decide ((bs.length : Int) = 0)) rfl rfl rfl rfl ?_
   refine wpo_pickf (v := .bool (decide ((bs.length : Int) = 0))) rfl h104 rfl rfl ?_
   exact wpo_nil ⟨⟨rfl, rfl, rfl, (congrArg Value.bool (by first | (simp only [h104, b0, b1, b2, b3, b4, b5, b6, b7, b8, b9]; done) | simp [h104]))⟩, rfl⟩
 ·
  rintro f107 w108 ⟨⟨e109, e110, e111, e112⟩, rfl⟩
  refine wpf_cond e112 (fun h113 => ?_) (fun h113 => ?_)
  ·
   refine wpf_seq_region ?_
   refine wpo_assign (v := .int .i64 0) rfl rfl ?_
   refine wpo_nil ?_
   refine wpf_ret ?_
   refine thn_r ?_
   refine ⟨.int .i64 0, res1 rfl rfl, 0, rfl, by omega, by omega, hS102.blk, hb103⟩
  ·
   have h114 := or_l h113
   have h115 := of_decide_eq_false h114
   have h116 := or_r h113
   have h117 := of_decide_eq_false h116
   refine wpf_skip ?_
   refine thn_n ?_
   refine wpf_seq_region ?_
   refine wpo_move (v := .pointer (some ⟨R, 0, none⟩)) e109 rfl ?_
   refine wpo_nilCheck rfl rfl ?_
   refine wpo_fieldAddr (o' := 1) fo_121_1 rfl rfl rfl ?_
   refine wpo_load1 (v := .int .i64 (p + 1)) ot_3 rfl (hS102.blk.cell rfl) rfl ?_
   refine wpo_sub (c := (p + 1) - 1) rfl rfl (by omega) (by omega) (by omega) rfl ?_
   refine wpo_assign (v := .int .i64 ((p + 1) - 1)) rfl rfl ?_
   refine wpo_nil ?_
   refine wpf_seq ?_
   refine wpf_seq_region ?_
   refine wpo_move (v := .int .i64 ((p + 1) - 1)) rfl rfl ?_
   refine wpo_move (v := .pointer (some ⟨R, 0, none⟩)) e109 rfl ?_
   refine wpo_nilCheck rfl rfl ?_
   refine wpo_fieldAddr (o' := 0) fo_121_0 rfl rfl rfl ?_
   refine wpo_load1 (v := .slice a bs.length c) ot_33 rfl (hS102.blk.cell rfl) rfl ?_
   refine wpo_len (by kernel_rfl) rfl rfl ?_
   refine wpo_lss (q := decide ((p + 1) - 1 < (bs.length : Int))) rfl rfl rfl rfl ?_
   refine wpo_nil ?_
   refine wpf_cond rfl (fun h118 => ?_) (fun h118 => ?_)
   ·
    have h119 := of_decide_eq_true h118
    refine wpf_seq_region ?_
    refine wpo_move (v := .pointer (some ⟨R, 0, none⟩)) e109 rfl ?_
    refine wpo_nilCheck rfl rfl ?_
    refine wpo_fieldAddr (o' := 0) fo_121_0 rfl rfl rfl ?_
    refine wpo_load1 (v := .slice a bs.length c) ot_33 rfl (hS102.blk.cell rfl) rfl ?_
    refine wpo_move (v := .int .i64 ((p + 1) - 1)) rfl rfl ?_
    obtain ⟨x120, hx121⟩ := get_lt (l := bs) (i := ((p + 1) - 1).toNat) (by omega)
    obtain ⟨b122, q123, o124, ha125, ho126, hne128, hr127⟩ := SlLt.at hs (map_get hx121)
    have hbd129 := hb x120 (List.mem_of_getElem? hx121)
    refine wpo_indexE es_33 rfl rfl ha125 ho126 (by omega) (by omega) rfl ?_
    refine wpo_load1 (v := .int .u8 x120) ot_5 rfl ((range_grown hr127 hb103 (some_ne (by omega))) 0 _ rfl) rfl ?_
    refine wpo_conv (P := Try.prog) (k' := .i64) rfl (by kernel_rfl) (by kernel_rfl) (conv_i64 (by omega) (by omega)) rfl ?_
    refine wpo_move (v := .int .i64 n) e110 rfl ?_
    have hr130 := Int.emod_nonneg x120 (show n ≠ 0 by omega)
    have hr131 := Int.emod_lt_of_pos x120 (show 0 < n by omega)
    refine wpo_rem (c := x120 % n) rfl rfl (by omega) (by omega) (by omega) rfl rfl ?_
    refine wpo_assign (v := .int .i64 (x120 % n)) rfl rfl ?_
    refine wpo_nil ?_
    refine wpf_ret ?_
    refine thn_r ?_
    refine ⟨.int .i64 (x120 % n), res1 rfl rfl, (x120 % n), rfl, by omega, by omega, hS102.blk, hb103⟩
   ·
    have h132 := of_decide_eq_false h118
    refine wpf_skip ?_
    refine thn_n ?_
    refine wpf_seq ?_
    have hr185 := Int.emod_nonneg ((p + 1) - 1) (show (bs.length : Int) ≠ 0 by omega)
    have hr186 := Int.emod_lt_of_pos ((p + 1) - 1) (show 0 < (bs.length : Int) by omega)
    obtain ⟨x189, hx190⟩ := get_lt (l := bs) (i := (((p + 1) - 1) % (bs.length : Int)).toNat) (by omega)
    obtain ⟨b191, q192, o193, ha194, ho195, hne197, hr196⟩ := SlLt.at hs (map_get hx190)
    have hbd198 := hb x189 (List.mem_of_getElem? hx190)
    have hr199 := Int.emod_nonneg (((p + 1) - 1) * 7 + 3) (show (bs.length : Int) ≠ 0 by omega)
    have hr200 := Int.emod_lt_of_pos (((p + 1) - 1) * 7 + 3) (show 0 < (bs.length : Int) by omega)
    obtain ⟨x203, hx204⟩ := get_lt (l := bs) (i := ((((p + 1) - 1) * 7 + 3) % (bs.length : Int)).toNat) (by omega)
    obtain ⟨b205, q206, o207, ha208, ho209, hne211, hr210⟩ := SlLt.at hs (map_get hx204)
    have hbd212 := hb x203 (List.mem_of_getElem? hx204)
    have hr213 := Int.ediv_nonneg (show 0 ≤ ((p + 1) - 1) by omega) (show 0 ≤ (bs.length : Int) by omega)
    have hr214 := Int.ediv_le_self (bs.length : Int) (show 0 ≤ ((p + 1) - 1) by omega)
    refine wpf_draw (m := 44) (vals := [(47, .pointer (some ⟨R, 0, none⟩)), (48, .pointer (some ⟨R, 0, none⟩)), (49, .pointer (some ⟨R, 0, none⟩)), (50, .slice a bs.length c), (51, .int .i64 ((p + 1) - 1)), (52, .pointer (some ⟨R, 0, none⟩)), (53, .pointer (some ⟨R, 0, none⟩)), (54, .pointer (some ⟨R, 0, none⟩)), (55, .slice a bs.length c), (56, .int .i64 (bs.length : Int)), (57, .int .i64 (((p + 1) - 1) % (bs.length : Int))), (58, .pointer (some ⟨b191, o193, none⟩)), (59, .int .u8 x189), (60, .int .i64 x189), (61, .int .i64 (x189 * 131)), (62, .pointer (some ⟨R, 0, none⟩)), (63, .pointer (some ⟨R, 0, none⟩)), (64, .pointer (some ⟨R, 0, none⟩)), (65, .slice a bs.length c), (66, .int .i64 ((p + 1) - 1)), (67, .int .i64 (((p + 1) - 1) * 7)), (68, .int .i64 (((p + 1) - 1) * 7 + 3)), (69, .pointer (some ⟨R, 0, none⟩)), (70, .pointer (some ⟨R, 0, none⟩)), (71, .pointer (some ⟨R, 0, none⟩)), (72, .slice a bs.length c), (73, .int .i64 (bs.length : Int)), (74, .int .i64 ((((p + 1) - 1) * 7 + 3) % (bs.length : Int))), (75, .pointer (some ⟨b205, o207, none⟩)), (76, .int .u8 x203), (77, .int .i64 x203), (78, .int .i64 (x203 * 1117)), (79, .int .i64 (x189 * 131 + (x203 * 1117))), (80, .int .i64 ((p + 1) - 1)), (81, .int .i64 (((p + 1) - 1) * 29)), (82, .int .i64 (x189 * 131 + (x203 * 1117) + (((p + 1) - 1) * 29))), (83, .int .i64 ((p + 1) - 1)), (84, .pointer (some ⟨R, 0, none⟩)), (85, .pointer (some ⟨R, 0, none⟩)), (86, .pointer (some ⟨R, 0, none⟩)), (87, .slice a bs.length c), (88, .int .i64 (bs.length : Int)), (89, .int .i64 (((p + 1) - 1) / (bs.length : Int))), (90, .int .i64 ((((p + 1) - 1) / (bs.length : Int)) * 53))]) (fun w' => w101.grownBy w' none) mixed_ (by kernel_rfl) (grown_drew _) ?_ ?_
    ·
     refine yll_cons rfl (fun w217 hi218 => ?_) ?_
     ·
      have hb219 := low0 hb103 hi218
      refine wpo_move (v := .pointer (some ⟨R, 0, none⟩)) e109 rfl ?_
      exact wpo_nil ⟨rfl, hi218⟩
     refine yll_cons rfl (fun w220 hi221 => ?_) ?_
     ·
      have hb222 := low0 hb103 hi221
      refine wpo_nilCheck rfl rfl ?_
      exact wpo_nil ⟨rfl, hi221⟩
     refine yll_cons rfl (fun w223 hi224 => ?_) ?_
     ·
      have hb225 := low0 hb103 hi224
      refine wpo_fieldAddr (o' := 0) fo_121_0 rfl rfl rfl ?_
      exact wpo_nil ⟨rfl, hi224⟩
     refine yll_cons rfl (fun w226 hi227 => ?_) ?_
     ·
      have hb228 := low0 hb103 hi227
      have k229 := (hS102.blk.grown0 hi227)
      refine wpo_load1 (v := .slice a bs.length c) ot_33 rfl (k229.cell rfl) rfl ?_
      exact wpo_nil ⟨rfl, hi227⟩
     refine yll_cons rfl (fun w230 hi231 => ?_) ?_
     ·
      have hb232 := low0 hb103 hi231
      refine wpo_move (v := .int .i64 ((p + 1) - 1)) rfl rfl ?_
      exact wpo_nil ⟨rfl, hi231⟩
     refine yll_cons rfl (fun w233 hi234 => ?_) ?_
     ·
      have hb235 := low0 hb103 hi234
      refine wpo_move (v := .pointer (some ⟨R, 0, none⟩)) e109 rfl ?_
      exact wpo_nil ⟨rfl, hi234⟩
     refine yll_cons rfl (fun w236 hi237 => ?_) ?_
     ·
      have hb238 := low0 hb103 hi237
      refine wpo_nilCheck rfl rfl ?_
      exact wpo_nil ⟨rfl, hi237⟩
     refine yll_cons rfl (fun w239 hi240 => ?_) ?_
     ·
      have hb241 := low0 hb103 hi240
      refine wpo_fieldAddr (o' := 0) fo_121_0 rfl rfl rfl ?_
      exact wpo_nil ⟨rfl, hi240⟩
     refine yll_cons rfl (fun w242 hi243 => ?_) ?_
     ·
      have hb244 := low0 hb103 hi243
      have k245 := (hS102.blk.grown0 hi243)
      refine wpo_load1 (v := .slice a bs.length c) ot_33 rfl (k245.cell rfl) rfl ?_
      exact wpo_nil ⟨rfl, hi243⟩
     refine yll_cons rfl (fun w246 hi247 => ?_) ?_
     ·
      have hb248 := low0 hb103 hi247
      refine wpo_len (by kernel_rfl) rfl rfl ?_
      exact wpo_nil ⟨rfl, hi247⟩
     refine yll_cons rfl (fun w249 hi250 => ?_) ?_
     ·
      have hb251 := low0 hb103 hi250
      refine wpo_rem (c := ((p + 1) - 1) % (bs.length : Int)) rfl rfl (by omega) (by omega) (by omega) rfl rfl ?_
      exact wpo_nil ⟨rfl, hi250⟩
     refine yll_cons rfl (fun w252 hi253 => ?_) ?_
     ·
      have hb254 := low0 hb103 hi253
      refine wpo_indexE es_33 rfl rfl ha194 ho195 (by omega) (by omega) rfl ?_
      exact wpo_nil ⟨rfl, hi253⟩
     refine yll_cons rfl (fun w255 hi256 => ?_) ?_
     ·
      have hb257 := low0 hb103 hi256
      refine wpo_load1 (v := .int .u8 x189) ot_5 rfl ((range_grown hr196 hb257 (some_ne (by omega))) 0 _ rfl) rfl ?_
      exact wpo_nil ⟨rfl, hi256⟩
     refine yll_cons rfl (fun w258 hi259 => ?_) ?_
     ·
      have hb260 := low0 hb103 hi259
      refine wpo_conv (P := Try.prog) (k' := .i64) rfl (by kernel_rfl) (by kernel_rfl) (conv_i64 (by omega) (by omega)) rfl ?_
      exact wpo_nil ⟨rfl, hi259⟩
     refine yll_cons rfl (fun w261 hi262 => ?_) ?_
     ·
      have hb263 := low0 hb103 hi262
      refine wpo_mul (c := x189 * 131) rfl rfl rfl (by omega) (by omega) rfl ?_
      exact wpo_nil ⟨rfl, hi262⟩
     refine yll_cons rfl (fun w264 hi265 => ?_) ?_
     ·
      have hb266 := low0 hb103 hi265
      refine wpo_move (v := .pointer (some ⟨R, 0, none⟩)) e109 rfl ?_
      exact wpo_nil ⟨rfl, hi265⟩
     refine yll_cons rfl (fun w267 hi268 => ?_) ?_
     ·
      have hb269 := low0 hb103 hi268
      refine wpo_nilCheck rfl rfl ?_
      exact wpo_nil ⟨rfl, hi268⟩
     refine yll_cons rfl (fun w270 hi271 => ?_) ?_
     ·
      have hb272 := low0 hb103 hi271
      refine wpo_fieldAddr (o' := 0) fo_121_0 rfl rfl rfl ?_
      exact wpo_nil ⟨rfl, hi271⟩
     refine yll_cons rfl (fun w273 hi274 => ?_) ?_
     ·
      have hb275 := low0 hb103 hi274
      have k276 := (hS102.blk.grown0 hi274)
      refine wpo_load1 (v := .slice a bs.length c) ot_33 rfl (k276.cell rfl) rfl ?_
      exact wpo_nil ⟨rfl, hi274⟩
     refine yll_cons rfl (fun w277 hi278 => ?_) ?_
     ·
      have hb279 := low0 hb103 hi278
      refine wpo_move (v := .int .i64 ((p + 1) - 1)) rfl rfl ?_
      exact wpo_nil ⟨rfl, hi278⟩
     refine yll_cons rfl (fun w280 hi281 => ?_) ?_
     ·
      have hb282 := low0 hb103 hi281
      refine wpo_mul (c := ((p + 1) - 1) * 7) rfl rfl rfl (by omega) (by omega) rfl ?_
      exact wpo_nil ⟨rfl, hi281⟩
     refine yll_cons rfl (fun w283 hi284 => ?_) ?_
     ·
      have hb285 := low0 hb103 hi284
      refine wpo_add (c := ((p + 1) - 1) * 7 + 3) rfl rfl (by omega) (by omega) (by omega) rfl ?_
      exact wpo_nil ⟨rfl, hi284⟩
     refine yll_cons rfl (fun w286 hi287 => ?_) ?_
     ·
      have hb288 := low0 hb103 hi287
      refine wpo_move (v := .pointer (some ⟨R, 0, none⟩)) e109 rfl ?_
      exact wpo_nil ⟨rfl, hi287⟩
     refine yll_cons rfl (fun w289 hi290 => ?_) ?_
     ·
      have hb291 := low0 hb103 hi290
      refine wpo_nilCheck rfl rfl ?_
      exact wpo_nil ⟨rfl, hi290⟩
     refine yll_cons rfl (fun w292 hi293 => ?_) ?_
     ·
      have hb294 := low0 hb103 hi293
      refine wpo_fieldAddr (o' := 0) fo_121_0 rfl rfl rfl ?_
      exact wpo_nil ⟨rfl, hi293⟩
     refine yll_cons rfl (fun w295 hi296 => ?_) ?_
     ·
      have hb297 := low0 hb103 hi296
      have k298 := (hS102.blk.grown0 hi296)
      refine wpo_load1 (v := .slice a bs.length c) ot_33 rfl (k298.cell rfl) rfl ?_
      exact wpo_nil ⟨rfl, hi296⟩
     refine yll_cons rfl (fun w299 hi300 => ?_) ?_
     ·
      have hb301 := low0 hb103 hi300
      refine wpo_len (by kernel_rfl) rfl rfl ?_
      exact wpo_nil ⟨rfl, hi300⟩
     refine yll_cons rfl (fun w302 hi303 => ?_) ?_
     ·
      have hb304 := low0 hb103 hi303
      refine wpo_rem (c := (((p + 1) - 1) * 7 + 3) % (bs.length : Int)) rfl rfl (by omega) (by omega) (by omega) rfl rfl ?_
      exact wpo_nil ⟨rfl, hi303⟩
     refine yll_cons rfl (fun w305 hi306 => ?_) ?_
     ·
      have hb307 := low0 hb103 hi306
      refine wpo_indexE es_33 rfl rfl ha208 ho209 (by omega) (by omega) rfl ?_
      exact wpo_nil ⟨rfl, hi306⟩
     refine yll_cons rfl (fun w308 hi309 => ?_) ?_
     ·
      have hb310 := low0 hb103 hi309
      refine wpo_load1 (v := .int .u8 x203) ot_5 rfl ((range_grown hr210 hb310 (some_ne (by omega))) 0 _ rfl) rfl ?_
      exact wpo_nil ⟨rfl, hi309⟩
     refine yll_cons rfl (fun w311 hi312 => ?_) ?_
     ·
      have hb313 := low0 hb103 hi312
      refine wpo_conv (P := Try.prog) (k' := .i64) rfl (by kernel_rfl) (by kernel_rfl) (conv_i64 (by omega) (by omega)) rfl ?_
      exact wpo_nil ⟨rfl, hi312⟩
     refine yll_cons rfl (fun w314 hi315 => ?_) ?_
     ·
      have hb316 := low0 hb103 hi315
      refine wpo_mul (c := x203 * 1117) rfl rfl rfl (by omega) (by omega) rfl ?_
      exact wpo_nil ⟨rfl, hi315⟩
     refine yll_cons rfl (fun w317 hi318 => ?_) ?_
     ·
      have hb319 := low0 hb103 hi318
      refine wpo_add (c := x189 * 131 + (x203 * 1117)) rfl rfl (by omega) (by omega) (by omega) rfl ?_
      exact wpo_nil ⟨rfl, hi318⟩
     refine yll_cons rfl (fun w320 hi321 => ?_) ?_
     ·
      have hb322 := low0 hb103 hi321
      refine wpo_move (v := .int .i64 ((p + 1) - 1)) rfl rfl ?_
      exact wpo_nil ⟨rfl, hi321⟩
     refine yll_cons rfl (fun w323 hi324 => ?_) ?_
     ·
      have hb325 := low0 hb103 hi324
      refine wpo_mul (c := ((p + 1) - 1) * 29) rfl rfl rfl (by omega) (by omega) rfl ?_
      exact wpo_nil ⟨rfl, hi324⟩
     refine yll_cons rfl (fun w326 hi327 => ?_) ?_
     ·
      have hb328 := low0 hb103 hi327
      refine wpo_add (c := x189 * 131 + (x203 * 1117) + (((p + 1) - 1) * 29)) rfl rfl (by omega) (by omega) (by omega) rfl ?_
      exact wpo_nil ⟨rfl, hi327⟩
     refine yll_cons rfl (fun w329 hi330 => ?_) ?_
     ·
      have hb331 := low0 hb103 hi330
      refine wpo_move (v := .int .i64 ((p + 1) - 1)) rfl rfl ?_
      exact wpo_nil ⟨rfl, hi330⟩
     refine yll_cons rfl (fun w332 hi333 => ?_) ?_
     ·
      have hb334 := low0 hb103 hi333
      refine wpo_move (v := .pointer (some ⟨R, 0, none⟩)) e109 rfl ?_
      exact wpo_nil ⟨rfl, hi333⟩
     refine yll_cons rfl (fun w335 hi336 => ?_) ?_
     ·
      have hb337 := low0 hb103 hi336
      refine wpo_nilCheck rfl rfl ?_
      exact wpo_nil ⟨rfl, hi336⟩
     refine yll_cons rfl (fun w338 hi339 => ?_) ?_
     ·
      have hb340 := low0 hb103 hi339
      refine wpo_fieldAddr (o' := 0) fo_121_0 rfl rfl rfl ?_
      exact wpo_nil ⟨rfl, hi339⟩
     refine yll_cons rfl (fun w341 hi342 => ?_) ?_
     ·
      have hb343 := low0 hb103 hi342
      have k344 := (hS102.blk.grown0 hi342)
      refine wpo_load1 (v := .slice a bs.length c) ot_33 rfl (k344.cell rfl) rfl ?_
      exact wpo_nil ⟨rfl, hi342⟩
     refine yll_cons rfl (fun w345 hi346 => ?_) ?_
     ·
      have hb347 := low0 hb103 hi346
      refine wpo_len (by kernel_rfl) rfl rfl ?_
      exact wpo_nil ⟨rfl, hi346⟩
     refine yll_cons rfl (fun w348 hi349 => ?_) ?_
     ·
      have hb350 := low0 hb103 hi349
      refine wpo_quo (c := ((p + 1) - 1) / (bs.length : Int)) rfl rfl (by omega) (by omega) (by omega) rfl rfl ?_
      exact wpo_nil ⟨rfl, hi349⟩
     refine yll_cons rfl (fun w351 hi352 => ?_) ?_
     ·
      have hb353 := low0 hb103 hi352
      refine wpo_mul (c := (((p + 1) - 1) / (bs.length : Int)) * 53) rfl rfl rfl (by omega) (by omega) rfl ?_
      exact wpo_nil ⟨rfl, hi352⟩
     exact yll_nil
    ·
     intro w354 hi355
     have hb356 := low0 hb103 hi355
     refine wpo_add (c := x189 * 131 + (x203 * 1117) + (((p + 1) - 1) * 29) + ((((p + 1) - 1) / (bs.length : Int)) * 53)) rfl rfl (by omega) (by omega) (by omega) rfl ?_
     refine wpo_assign (v := .int .i64 (x189 * 131 + (x203 * 1117) + (((p + 1) - 1) * 29) + ((((p + 1) - 1) / (bs.length : Int)) * 53))) rfl rfl ?_
     refine wpo_nil ?_
     refine thn_n ?_
     refine wpf_seq_region ?_
     refine wpo_move (v := .int .i64 (x189 * 131 + (x203 * 1117) + (((p + 1) - 1) * 29) + ((((p + 1) - 1) / (bs.length : Int)) * 53))) rfl rfl ?_
     refine wpo_move (v := .int .i64 (x189 * 131 + (x203 * 1117) + (((p + 1) - 1) * 29) + ((((p + 1) - 1) / (bs.length : Int)) * 53))) rfl rfl ?_
     refine wpo_quo (c := (x189 * 131 + (x203 * 1117) + (((p + 1) - 1) * 29) + ((((p + 1) - 1) / (bs.length : Int)) * 53)) / 64) rfl rfl (by omega) (by omega) (by omega) rfl rfl ?_
     have hx357 := xor_pos (x := x189 * 131 + (x203 * 1117) + (((p + 1) - 1) * 29) + ((((p + 1) - 1) / (bs.length : Int)) * 53)) (y := (x189 * 131 + (x203 * 1117) + (((p + 1) - 1) * 29) + ((((p + 1) - 1) / (bs.length : Int)) * 53)) / 64) (by omega) (by omega) (by omega) (by omega)
     refine wpo_bin (u := .int .i64 (x189 * 131 + (x203 * 1117) + (((p + 1) - 1) * 29) + ((((p + 1) - 1) / (bs.length : Int)) * 53))) (u' := .int .i64 ((x189 * 131 + (x203 * 1117) + (((p + 1) - 1) * 29) + ((((p + 1) - 1) / (bs.length : Int)) * 53)) / 64)) (v := .int .i64 (bits .xor .i64 (x189 * 131 + (x203 * 1117) + (((p + 1) - 1) * 29) + ((((p + 1) - 1) / (bs.length : Int)) * 53)) ((x189 * 131 + (x203 * 1117) + (((p + 1) - 1) * 29) + ((((p + 1) - 1) / (bs.length : Int)) * 53)) / 64))) rfl rfl (by rw [binOp_xor, intBits_xor]; rfl) (fun _ _ => eqGuard_at_int ..) rfl ?_
     refine wpo_assign (v := .int .i64 (bits .xor .i64 (x189 * 131 + (x203 * 1117) + (((p + 1) - 1) * 29) + ((((p + 1) - 1) / (bs.length : Int)) * 53)) ((x189 * 131 + (x203 * 1117) + (((p + 1) - 1) * 29) + ((((p + 1) - 1) / (bs.length : Int)) * 53)) / 64))) rfl rfl ?_
     refine wpo_nil ?_
     refine wpf_seq_region ?_
     refine wpo_move (v := .int .i64 (bits .xor .i64 (x189 * 131 + (x203 * 1117) + (((p + 1) - 1) * 29) + ((((p + 1) - 1) / (bs.length : Int)) * 53)) ((x189 * 131 + (x203 * 1117) + (((p + 1) - 1) * 29) + ((((p + 1) - 1) / (bs.length : Int)) * 53)) / 64))) rfl rfl ?_
     refine wpo_move (v := .int .i64 n) e110 rfl ?_
     have hr358 := Int.emod_nonneg (bits .xor .i64 (x189 * 131 + (x203 * 1117) + (((p + 1) - 1) * 29) + ((((p + 1) - 1) / (bs.length : Int)) * 53)) ((x189 * 131 + (x203 * 1117) + (((p + 1) - 1) * 29) + ((((p + 1) - 1) / (bs.length : Int)) * 53)) / 64)) (show n ≠ 0 by omega)
     have hr359 := Int.emod_lt_of_pos (bits .xor .i64 (x189 * 131 + (x203 * 1117) + (((p + 1) - 1) * 29) + ((((p + 1) - 1) / (bs.length : Int)) * 53)) ((x189 * 131 + (x203 * 1117) + (((p + 1) - 1) * 29) + ((((p + 1) - 1) / (bs.length : Int)) * 53)) / 64)) (show 0 < n by omega)
     refine wpo_rem (c := (bits .xor .i64 (x189 * 131 + (x203 * 1117) + (((p + 1) - 1) * 29) + ((((p + 1) - 1) / (bs.length : Int)) * 53)) ((x189 * 131 + (x203 * 1117) + (((p + 1) - 1) * 29) + ((((p + 1) - 1) / (bs.length : Int)) * 53)) / 64)) % n) rfl rfl (by omega) (by omega) (by omega) rfl rfl ?_
     refine wpo_assign (v := .int .i64 ((bits .xor .i64 (x189 * 131 + (x203 * 1117) + (((p + 1) - 1) * 29) + ((((p + 1) - 1) / (bs.length : Int)) * 53)) ((x189 * 131 + (x203 * 1117) + (((p + 1) - 1) * 29) + ((((p + 1) - 1) / (bs.length : Int)) * 53)) / 64)) % n)) rfl rfl ?_
     refine wpo_nil ?_
     refine wpf_ret ?_
     have k360 := (hS102.blk.grown0 hi355)
     refine ⟨.int .i64 ((bits .xor .i64 (x189 * 131 + (x203 * 1117) + (((p + 1) - 1) * 29) + ((((p + 1) - 1) / (bs.length : Int)) * 53)) ((x189 * 131 + (x203 * 1117) + (((p + 1) - 1) * 29) + ((((p + 1) - 1) / (bs.length : Int)) * 53)) / 64)) % n), res1 rfl rfl, ((bits .xor .i64 (x189 * 131 + (x203 * 1117) + (((p + 1) - 1) * 29) + ((((p + 1) - 1) / (bs.length : Int)) * 53)) ((x189 * 131 + (x203 * 1117) + (((p + 1) - 1) * 29) + ((((p + 1) - 1) / (bs.length : Int)) * 53)) / 64)) % n), rfl, by omega, by omega, k360, hb356⟩
theorem l71Right_c (p : Int) (hp : 0 ≤ p ∧ p ≤ 1000000000000) (lo R : Nat) (bs : List Int) (a : Option Addr) (c : Nat) (w : World) (hR : Blk w R 121 #[.slice a bs.length c, .int .i64 p]) (hlo : lo ≤ R) (hs : SlLt lo w a 1 (bs.map bcell)) (hb : ∀ b ∈ bs, 0 ≤ b ∧ b ≤ 255) (hn : bs.length ≤ 1048576) : CallsR Try.prog 61 #[.pointer (some ⟨R, 0, none⟩)] w (fun v w' => ∃ (r : Rt) (p' : Int), v = .agg #[.int .i64 r.th, .int .i64 r.ve, .bool r.rd, .bool r.wr, .bool r.wk] ∧ -1 ≤ r.th ∧ r.th ≤ 9 ∧ -1 ≤ r.ve ∧ r.ve ≤ 9 ∧ p ≤ p' ∧ p' ≤ p + 8 ∧ Blk w' R 121 #[.slice a bs.length c, .int .i64 p'] ∧ w.grownBy w' (some R)) := by
 refine calls_of_wpf (n := 49) Try.func61 rfl Try.ntmps61 rfl ?_
 have hb0 := World.grownBy.refl w (some R)
 have hRlt := hR.lt
 refine wpf_seq_region ?_
 refine wpo_alloc (cs := #[.int .i64 0, .int .i64 0, .bool false, .bool false, .bool false]) zt_29 rfl rfl ?_
 intro B101 w102 hN103
 have hlB101 := hN_ge hN103 hb0
 have lt_R_B101 := hN_gtl hN103 (hR).lt
 have hb104 := low0 hb0 hN103.grw
 refine wpo_nil ?_
 refine wpf_seq ?_
 refine wpf_seq_region ?_
 refine wpo_move (v := .pointer (some ⟨R, 0, none⟩)) rfl rfl ?_
 have k105 := (hR.grown0 hN103.grw)
 refine wpo_call (vs := [.pointer (some ⟨R, 0, none⟩), .int .i64 6]) gf_60 (args_cons rfl (args_cons rfl args_nil)) rfl (pick_c p 6 (by omega) _ R bs _ _ _ k105 (by omega) (SlLt.low1 hs hb104 hlo) (by first | exact hb | exact fun b h => hb b (List.mem_of_mem_take h)) (by first | omega | (rw [List.length_take]; omega))) ?_
 rintro _ w111 ⟨k106, rfl, hk107, hk108, kR109, hg110⟩
 have hb112 := grown_trans hb104 hg110
 refine wpo_eql (q := decide (k106 = 0)) rfl rfl rfl rfl ?_
 refine wpo_nil ?_
 refine wpf_cond rfl (fun h113 => ?_) (fun h113 => ?_)
 ·
  have h114 := of_decide_eq_true h113
  refine wpf_seq_region ?_
  refine wpo_build (ps := []) (v := .agg #[.int .i64 0, .int .i64 0, .bool false, .bool false, .bool false]) parts_nil (by kernel_rfl) rfl ?_
  have k115 := (hN103.blk.grown hg110 (some_ne (by omega)))
  refine wpo_storen (vs := [.int .i64 0, .int .i64 0, .bool false, .bool false, .bool false]) (cs' := #[.int .i64 0, .int .i64 0, .bool false, .bool false, .bool false]) rt_29 rfl rfl rfl (by simp [Value.oneCell']) k115 (Nat.le_of_ble_eq_true rfl) rfl ?_
  intro w116 hS117
  have hb118 := low1 hb112 hS117.grw (by omega)
  refine wpo_nil ?_
  refine wpf_ret ?_
  refine thn_r ?_
  have k119 := (kR109.grown hS117.grw (some_ne (by omega)))
  refine ⟨.agg #[.int .i64 0, .int .i64 0, .bool false, .bool false, .bool false], resC rfl (resCell_mk (vs := [.int .i64 0, .int .i64 0, .bool false, .bool false, .bool false]) rt_29 rfl rfl (hS117.blk.rangeL 0 5 rfl)), ⟨0, 0, false, false, false⟩, (p + 1), rfl, show (-1 : Int) ≤ 0 by omega, show 0 ≤ (9 : Int) by omega, show (-1 : Int) ≤ 0 by omega, show 0 ≤ (9 : Int) by omega, by omega, by omega, k119, hb118⟩
 ·
  have h120 := of_decide_eq_false h113
  refine wpf_skip ?_
  refine thn_n ?_
  refine wpf_seq_region ?_
  refine wpo_move (v := .pointer (some ⟨R, 0, none⟩)) rfl rfl ?_
  refine wpo_call (vs := [.pointer (some ⟨R, 0, none⟩), .int .i64 8]) gf_60 (args_cons rfl (args_cons rfl args_nil)) rfl (pick_c (p + 1) 8 (by omega) _ R bs _ _ _ kR109 (by omega) (SlLt.low1 hs hb112 hlo) (by first | exact hb | exact fun b h => hb b (List.mem_of_mem_take h)) (by first | omega | (rw [List.length_take]; omega))) ?_
  rintro _ w126 ⟨k121, rfl, hk122, hk123, kR124, hg125⟩
  have hb127 := grown_trans hb112 hg125
  refine wpo_add (c := 1 + k121) rfl rfl (by omega) (by omega) (by omega) rfl ?_
  refine wpo_move (v := .pointer (some ⟨R, 0, none⟩)) rfl rfl ?_
  refine wpo_call (vs := [.pointer (some ⟨R, 0, none⟩), .int .i64 3]) gf_60 (args_cons rfl (args_cons rfl args_nil)) rfl (pick_c (p + 1 + 1) 3 (by omega) _ R bs _ _ _ kR124 (by omega) (SlLt.low1 hs hb127 hlo) (by first | exact hb | exact fun b h => hb b (List.mem_of_mem_take h)) (by first | omega | (rw [List.length_take]; omega))) ?_
  rintro _ w133 ⟨k128, rfl, hk129, hk130, kR131, hg132⟩
  have hb134 := grown_trans hb127 hg132
  refine wpo_move (v := .pointer (some ⟨R, 0, none⟩)) rfl rfl ?_
  refine wpo_call (vs := [.pointer (some ⟨R, 0, none⟩), .int .i64 4]) gf_60 (args_cons rfl (args_cons rfl args_nil)) rfl (pick_c (p + 1 + 1 + 1) 4 (by omega) _ R bs _ _ _ kR131 (by omega) (SlLt.low1 hs hb134 hlo) (by first | exact hb | exact fun b h => hb b (List.mem_of_mem_take h)) (by first | omega | (rw [List.length_take]; omega))) ?_
  rintro _ w140 ⟨k135, rfl, hk136, hk137, kR138, hg139⟩
  have hb141 := grown_trans hb134 hg139
  refine wpo_gtr (q := decide (0 < k135)) rfl rfl rfl rfl ?_
  refine wpo_move (v := .pointer (some ⟨R, 0, none⟩)) rfl rfl ?_
  refine wpo_call (vs := [.pointer (some ⟨R, 0, none⟩), .int .i64 2]) gf_60 (args_cons rfl (args_cons rfl args_nil)) rfl (pick_c (p + 1 + 1 + 1 + 1) 2 (by omega) _ R bs _ _ _ kR138 (by omega) (SlLt.low1 hs hb141 hlo) (by first | exact hb | exact fun b h => hb b (List.mem_of_mem_take h)) (by first | omega | (rw [List.length_take]; omega))) ?_
  rintro _ w147 ⟨k142, rfl, hk143, hk144, kR145, hg146⟩
  have hb148 := grown_trans hb141 hg146
  refine wpo_eql (q := decide (k142 = 0)) rfl rfl rfl rfl ?_
  refine wpo_build (ps := [(0, .int .i64 (1 + k121)), (1, .int .i64 k128), (2, .bool (decide (0 < k135))), (3, .bool (decide (k142 = 0)))]) (v := .agg #[.int .i64 (1 + k121), .int .i64 k128, .bool (decide (0 < k135)), .bool (decide (k142 = 0)), .bool false]) (parts_cons rfl (parts_cons rfl (parts_cons rfl (parts_cons rfl parts_nil)))) (by kernel_rfl) rfl ?_
  refine wpo_alloc (cs := #[.int .i64 0, .int .i64 0, .bool false, .bool false, .bool false]) zt_29 rfl rfl ?_
  intro B149 w150 hN151
  have hlB149 := hN_ge hN151 hb148
  have lt_R_B149 := hN_gtl hN151 (kR145).lt
  have k152 := (((((hN103.blk.grown hg110 (some_ne (by omega))).grown hg125 (some_ne (by omega))).grown hg132 (some_ne (by omega))).grown hg139 (some_ne (by omega))).grown hg146 (some_ne (by omega)))
  have lt_B101_B149 := hN_gtl hN151 (k152).lt
  have hb153 := low0 hb148 hN151.grw
  refine wpo_storen (vs := [.int .i64 (1 + k121), .int .i64 k128, .bool (decide (0 < k135)), .bool (decide (k142 = 0)), .bool false]) (cs' := #[.int .i64 (1 + k121), .int .i64 k128, .bool (decide (0 < k135)), .bool (decide (k142 = 0)), .bool false]) rt_29 rfl rfl rfl (by simp [Value.oneCell']) hN151.blk (Nat.le_of_ble_eq_true rfl) rfl ?_
  intro w154 hS155
  have hb156 := low1 hb153 hS155.grw (by omega)
  refine wpo_nil ?_
  refine wpf_seq ?_
  refine wpf_seq_region ?_
  refine wpo_fieldAddr (o' := 3) fo_29_3 rfl rfl rfl ?_
  refine wpo_load1 (v := .bool (decide (k142 = 0))) ot_4 rfl (hS155.blk.cell rfl) rfl ?_
  refine wpo_not (b' := !(decide (k142 = 0))) rfl rfl rfl ?_
  refine wpo_nil ?_
  refine wpf_cond rfl (fun h157 => ?_) (fun h157 => ?_)
  ·
   have h158 := nt_t h157
   have h159 := of_decide_eq_false h158
   refine wpf_region ?_
   refine wpo_move (v := .pointer (some ⟨R, 0, none⟩)) rfl rfl ?_
   have k160 := ((kR145.grown0 hN151.grw).grown hS155.grw (some_ne (by omega)))
   refine wpo_call (vs := [.pointer (some ⟨R, 0, none⟩), .int .i64 2]) gf_60 (args_cons rfl (args_cons rfl args_nil)) rfl (pick_c (p + 1 + 1 + 1 + 1 + 1) 2 (by omega) _ R bs _ _ _ k160 (by omega) (SlLt.low1 hs hb156 hlo) (by first | exact hb | exact fun b h => hb b (List.mem_of_mem_take h)) (by first | omega | (rw [List.length_take]; omega))) ?_
   rintro _ w166 ⟨k161, rfl, hk162, hk163, kR164, hg165⟩
   have hb167 := grown_trans hb156 hg165
   refine wpo_eql (q := decide (k161 = 0)) rfl rfl rfl rfl ?_
   refine wpo_fieldAddr (o' := 4) fo_29_4 rfl rfl rfl ?_
   have k168 := (hS155.blk.grown hg165 (some_ne (by omega)))
   refine wpo_store1 (v := .bool (decide (k161 = 0))) (cs' := #[.int .i64 (1 + k121), .int .i64 k128, .bool (decide (0 < k135)), .bool (decide (k142 = 0)), .bool (decide (k161 = 0))]) ot_4 rfl rfl rfl k168 (Nat.le_of_ble_eq_true rfl) rfl ?_
   intro w169 hS170
   have hb171 := low1 hb167 hS170.grw (by omega)
   refine wpo_nil ?_
   refine thn_n ?_
   refine wpf_seq ?_
   refine wpf_seq_region ?_
   refine wpo_move (v := .pointer (some ⟨R, 0, none⟩)) rfl rfl ?_
   have k172 := (kR164.grown hS170.grw (some_ne (by omega)))
   refine wpo_call (vs := [.pointer (some ⟨R, 0, none⟩), .int .i64 40]) gf_60 (args_cons rfl (args_cons rfl args_nil)) rfl (pick_c (p + 1 + 1 + 1 + 1 + 1 + 1) 40 (by omega) _ R bs _ _ _ k172 (by omega) (SlLt.low1 hs hb171 hlo) (by first | exact hb | exact fun b h => hb b (List.mem_of_mem_take h)) (by first | omega | (rw [List.length_take]; omega))) ?_
   rintro _ w178 ⟨k173, rfl, hk174, hk175, kR176, hg177⟩
   have hb179 := grown_trans hb171 hg177
   refine wpo_nil ?_
   refine wpf_block ?_
   refine wpf_seq_region ?_
   refine wpo_eql (q := decide (k173 = 0)) rfl rfl rfl rfl ?_
   refine wpo_assign (v := .bool (decide (k173 = 0))) rfl rfl ?_
   refine wpo_nil ?_
   refine wpf_cond rfl (fun h180 => ?_) (fun h180 => ?_)
   ·
    have h181 := of_decide_eq_true h180
    refine wpf_region ?_
    refine wpo_fieldAddr (o' := 4) fo_29_4 rfl rfl rfl ?_
    have k182 := (hS170.blk.grown hg177 (some_ne (by omega)))
    refine wpo_store1 (v := .bool true) (cs' := #[.int .i64 (1 + k121), .int .i64 k128, .bool (decide (0 < k135)), .bool (decide (k142 = 0)), .bool true]) ot_4 rfl rfl rfl k182 (Nat.le_of_ble_eq_true rfl) rfl ?_
    intro w183 hS184
    have hb185 := low1 hb179 hS184.grw (by omega)
    refine wpo_nil ?_
    refine blk_n ?_
    refine thn_n ?_
    refine wpf_seq_region ?_
    refine wpo_loadn (vs := [.int .i64 (1 + k121), .int .i64 k128, .bool (decide (0 < k135)), .bool (decide (k142 = 0)), .bool true]) rt_29 rfl rfl (hS184.blk.rangeL 0 5 rfl) rfl ?_
    have k186 := ((((((k152.grown0 hN151.grw).grown hS155.grw (some_ne (by omega))).grown hg165 (some_ne (by omega))).grown hS170.grw (some_ne (by omega))).grown hg177 (some_ne (by omega))).grown hS184.grw (some_ne (by omega)))
    refine wpo_storen (vs := [.int .i64 (1 + k121), .int .i64 k128, .bool (decide (0 < k135)), .bool (decide (k142 = 0)), .bool true]) (cs' := #[.int .i64 (1 + k121), .int .i64 k128, .bool (decide (0 < k135)), .bool (decide (k142 = 0)), .bool true]) rt_29 rfl rfl rfl (by simp [Value.oneCell']) k186 (Nat.le_of_ble_eq_true rfl) rfl ?_
    intro w187 hS188
    have hb189 := low1 hb185 hS188.grw (by omega)
    refine wpo_nil ?_
    refine wpf_ret ?_
    have k190 := ((kR176.grown hS184.grw (some_ne (by omega))).grown hS188.grw (some_ne (by omega)))
    refine ⟨.agg #[.int .i64 (1 + k121), .int .i64 k128, .bool (decide (0 < k135)), .bool (decide (k142 = 0)), .bool true], resC rfl (resCell_mk (vs := [.int .i64 (1 + k121), .int .i64 k128, .bool (decide (0 < k135)), .bool (decide (k142 = 0)), .bool true]) rt_29 rfl rfl (hS188.blk.rangeL 0 5 rfl)), ⟨1 + k121, k128, decide (0 < k135), decide (k142 = 0), true⟩, (p + 1 + 1 + 1 + 1 + 1 + 1 + 1), rfl, show (-1 : Int) ≤ 1 + k121 by omega, show 1 + k121 ≤ (9 : Int) by omega, show (-1 : Int) ≤ k128 by omega, show k128 ≤ (9 : Int) by omega, by omega, by omega, k190, hb189⟩
   ·
    have h191 := of_decide_eq_false h180
    refine wpf_seq_region ?_
    refine wpo_eql (q := decide (k173 = 1)) rfl rfl rfl rfl ?_
    refine wpo_assign (v := .bool (decide (k173 = 1))) rfl rfl ?_
    refine wpo_nil ?_
    refine wpf_cond rfl (fun h192 => ?_) (fun h192 => ?_)
    ·
     have h193 := of_decide_eq_true h192
     refine wpf_region ?_
     refine wpo_buildSlice (ps := [(0, .int .i64 0), (1, .int .i64 9), (2, .int .i64 (-1))]) (e := 3) (cs := (([0, 9, (-1)] : List Int).flatMap icell).toArray) (parts_cons rfl (parts_cons rfl (parts_cons rfl parts_nil))) (fun _ => by kernel_rfl) rfl ?_
     intro B194 w195 hN196
     have hlB194 := hN_ge hN196 hb179
     have lt_R_B194 := hN_gtl hN196 (kR176).lt
     have k197 := (((((k152.grown0 hN151.grw).grown hS155.grw (some_ne (by omega))).grown hg165 (some_ne (by omega))).grown hS170.grw (some_ne (by omega))).grown hg177 (some_ne (by omega)))
     have lt_B101_B194 := hN_gtl hN196 (k197).lt
     have k198 := (hS170.blk.grown hg177 (some_ne (by omega)))
     have lt_B149_B194 := hN_gtl hN196 (k198).lt
     have hb199 := low0 hb179 hN196.grw
     refine wpo_move (v := .pointer (some ⟨R, 0, none⟩)) rfl rfl ?_
     have k200 := (kR176.grown0 hN196.grw)
     refine wpo_call (vs := [.pointer (some ⟨R, 0, none⟩), .int .i64 3]) gf_60 (args_cons rfl (args_cons rfl args_nil)) rfl (pick_c (p + 1 + 1 + 1 + 1 + 1 + 1 + 1) 3 (by omega) _ R bs _ _ _ k200 (by omega) (SlLt.low1 hs hb199 hlo) (by first | exact hb | exact fun b h => hb b (List.mem_of_mem_take h)) (by first | omega | (rw [List.length_take]; omega))) ?_
     rintro _ w206 ⟨k201, rfl, hk202, hk203, kR204, hg205⟩
     have hb207 := grown_trans hb199 hg205
     refine wpo_indexAddr (o' := (k201).toNat * 1) es_43 rfl rfl (by omega) (by omega) (by omega) rfl ?_
     have k208 := (hN196.blk.grown hg205 (some_ne (by omega)))
     obtain ⟨x209, hx210⟩ := get_lt (l := ([0, 9, (-1)] : List Int)) (i := (k201).toNat) (show (k201).toNat < 3 by omega)
     have hm211 := List.mem_of_getElem? hx210
     simp only [List.mem_cons, List.not_mem_nil, or_false] at hm211
     refine wpo_load1 (v := .int .i64 x209) ot_3 rfl ((rows_range wide_int k208 hx210) 0 _ rfl) rfl ?_
     refine wpo_fieldAddr (o' := 0) fo_29_0 rfl rfl rfl ?_
     have k212 := ((k198.grown0 hN196.grw).grown hg205 (some_ne (by omega)))
     refine wpo_store1 (v := .int .i64 x209) (cs' := #[.int .i64 x209, .int .i64 k128, .bool (decide (0 < k135)), .bool (decide (k142 = 0)), .bool (decide (k161 = 0))]) ot_3 rfl rfl rfl k212 (Nat.le_of_ble_eq_true rfl) rfl ?_
     intro w213 hS214
     have hb215 := low1 hb207 hS214.grw (by omega)
     refine wpo_nil ?_
     refine blk_n ?_
     refine thn_n ?_
     refine wpf_seq_region ?_
     refine wpo_loadn (vs := [.int .i64 x209, .int .i64 k128, .bool (decide (0 < k135)), .bool (decide (k142 = 0)), .bool (decide (k161 = 0))]) rt_29 rfl rfl (hS214.blk.rangeL 0 5 rfl) rfl ?_
     have k216 := (((k197.grown0 hN196.grw).grown hg205 (some_ne (by omega))).grown hS214.grw (some_ne (by omega)))
     refine wpo_storen (vs := [.int .i64 x209, .int .i64 k128, .bool (decide (0 < k135)), .bool (decide (k142 = 0)), .bool (decide (k161 = 0))]) (cs' := #[.int .i64 x209, .int .i64 k128, .bool (decide (0 < k135)), .bool (decide (k142 = 0)), .bool (decide (k161 = 0))]) rt_29 rfl rfl rfl (by simp [Value.oneCell']) k216 (Nat.le_of_ble_eq_true rfl) rfl ?_
     intro w217 hS218
     have hb219 := low1 hb215 hS218.grw (by omega)
     refine wpo_nil ?_
     refine wpf_ret ?_
     have k220 := ((kR204.grown hS214.grw (some_ne (by omega))).grown hS218.grw (some_ne (by omega)))
     refine ⟨.agg #[.int .i64 x209, .int .i64 k128, .bool (decide (0 < k135)), .bool (decide (k142 = 0)), .bool (decide (k161 = 0))], resC rfl (resCell_mk (vs := [.int .i64 x209, .int .i64 k128, .bool (decide (0 < k135)), .bool (decide (k142 = 0)), .bool (decide (k161 = 0))]) rt_29 rfl rfl (hS218.blk.rangeL 0 5 rfl)), ⟨x209, k128, decide (0 < k135), decide (k142 = 0), decide (k161 = 0)⟩, (p + 1 + 1 + 1 + 1 + 1 + 1 + 1 + 1), rfl, show (-1 : Int) ≤ x209 by omega, show x209 ≤ (9 : Int) by omega, show (-1 : Int) ≤ k128 by omega, show k128 ≤ (9 : Int) by omega, by omega, by omega, k220, hb219⟩
    ·
     have h221 := of_decide_eq_false h192
     refine wpf_seq_region ?_
     refine wpo_eql (q := decide (k173 = 2)) rfl rfl rfl rfl ?_
     refine wpo_assign (v := .bool (decide (k173 = 2))) rfl rfl ?_
     refine wpo_nil ?_
     refine wpf_cond rfl (fun h222 => ?_) (fun h222 => ?_)
     ·
      have h223 := of_decide_eq_true h222
      refine wpf_region ?_
      refine wpo_buildSlice (ps := [(0, .int .i64 (-1)), (1, .int .i64 5), (2, .int .i64 6)]) (e := 3) (cs := (([(-1), 5, 6] : List Int).flatMap icell).toArray) (parts_cons rfl (parts_cons rfl (parts_cons rfl parts_nil))) (fun _ => by kernel_rfl) rfl ?_
      intro B224 w225 hN226
      have hlB224 := hN_ge hN226 hb179
      have lt_R_B224 := hN_gtl hN226 (kR176).lt
      have k227 := (((((k152.grown0 hN151.grw).grown hS155.grw (some_ne (by omega))).grown hg165 (some_ne (by omega))).grown hS170.grw (some_ne (by omega))).grown hg177 (some_ne (by omega)))
      have lt_B101_B224 := hN_gtl hN226 (k227).lt
      have k228 := (hS170.blk.grown hg177 (some_ne (by omega)))
      have lt_B149_B224 := hN_gtl hN226 (k228).lt
      have hb229 := low0 hb179 hN226.grw
      refine wpo_move (v := .pointer (some ⟨R, 0, none⟩)) rfl rfl ?_
      have k230 := (kR176.grown0 hN226.grw)
      refine wpo_call (vs := [.pointer (some ⟨R, 0, none⟩), .int .i64 3]) gf_60 (args_cons rfl (args_cons rfl args_nil)) rfl (pick_c (p + 1 + 1 + 1 + 1 + 1 + 1 + 1) 3 (by omega) _ R bs _ _ _ k230 (by omega) (SlLt.low1 hs hb229 hlo) (by first | exact hb | exact fun b h => hb b (List.mem_of_mem_take h)) (by first | omega | (rw [List.length_take]; omega))) ?_
      rintro _ w236 ⟨k231, rfl, hk232, hk233, kR234, hg235⟩
      have hb237 := grown_trans hb229 hg235
      refine wpo_indexAddr (o' := (k231).toNat * 1) es_43 rfl rfl (by omega) (by omega) (by omega) rfl ?_
      have k238 := (hN226.blk.grown hg235 (some_ne (by omega)))
      obtain ⟨x239, hx240⟩ := get_lt (l := ([(-1), 5, 6] : List Int)) (i := (k231).toNat) (show (k231).toNat < 3 by omega)
      have hm241 := List.mem_of_getElem? hx240
      simp only [List.mem_cons, List.not_mem_nil, or_false] at hm241
      refine wpo_load1 (v := .int .i64 x239) ot_3 rfl ((rows_range wide_int k238 hx240) 0 _ rfl) rfl ?_
      refine wpo_fieldAddr (o' := 1) fo_29_1 rfl rfl rfl ?_
      have k242 := ((k228.grown0 hN226.grw).grown hg235 (some_ne (by omega)))
      refine wpo_store1 (v := .int .i64 x239) (cs' := #[.int .i64 (1 + k121), .int .i64 x239, .bool (decide (0 < k135)), .bool (decide (k142 = 0)), .bool (decide (k161 = 0))]) ot_3 rfl rfl rfl k242 (Nat.le_of_ble_eq_true rfl) rfl ?_
      intro w243 hS244
      have hb245 := low1 hb237 hS244.grw (by omega)
      refine wpo_nil ?_
      refine blk_n ?_
      refine thn_n ?_
      refine wpf_seq_region ?_
      refine wpo_loadn (vs := [.int .i64 (1 + k121), .int .i64 x239, .bool (decide (0 < k135)), .bool (decide (k142 = 0)), .bool (decide (k161 = 0))]) rt_29 rfl rfl (hS244.blk.rangeL 0 5 rfl) rfl ?_
      have k246 := (((k227.grown0 hN226.grw).grown hg235 (some_ne (by omega))).grown hS244.grw (some_ne (by omega)))
      refine wpo_storen (vs := [.int .i64 (1 + k121), .int .i64 x239, .bool (decide (0 < k135)), .bool (decide (k142 = 0)), .bool (decide (k161 = 0))]) (cs' := #[.int .i64 (1 + k121), .int .i64 x239, .bool (decide (0 < k135)), .bool (decide (k142 = 0)), .bool (decide (k161 = 0))]) rt_29 rfl rfl rfl (by simp [Value.oneCell']) k246 (Nat.le_of_ble_eq_true rfl) rfl ?_
      intro w247 hS248
      have hb249 := low1 hb245 hS248.grw (by omega)
      refine wpo_nil ?_
      refine wpf_ret ?_
      have k250 := ((kR234.grown hS244.grw (some_ne (by omega))).grown hS248.grw (some_ne (by omega)))
      refine ⟨.agg #[.int .i64 (1 + k121), .int .i64 x239, .bool (decide (0 < k135)), .bool (decide (k142 = 0)), .bool (decide (k161 = 0))], resC rfl (resCell_mk (vs := [.int .i64 (1 + k121), .int .i64 x239, .bool (decide (0 < k135)), .bool (decide (k142 = 0)), .bool (decide (k161 = 0))]) rt_29 rfl rfl (hS248.blk.rangeL 0 5 rfl)), ⟨1 + k121, x239, decide (0 < k135), decide (k142 = 0), decide (k161 = 0)⟩, (p + 1 + 1 + 1 + 1 + 1 + 1 + 1 + 1), rfl, show (-1 : Int) ≤ 1 + k121 by omega, show 1 + k121 ≤ (9 : Int) by omega, show (-1 : Int) ≤ x239 by omega, show x239 ≤ (9 : Int) by omega, by omega, by omega, k250, hb249⟩
     ·
      have h251 := of_decide_eq_false h222
      refine wpf_skip ?_
      refine blk_n ?_
      refine thn_n ?_
      refine wpf_seq_region ?_
      have k252 := (hS170.blk.grown hg177 (some_ne (by omega)))
      refine wpo_loadn (vs := [.int .i64 (1 + k121), .int .i64 k128, .bool (decide (0 < k135)), .bool (decide (k142 = 0)), .bool (decide (k161 = 0))]) rt_29 rfl rfl (k252.rangeL 0 5 rfl) rfl ?_
      have k253 := (((((k152.grown0 hN151.grw).grown hS155.grw (some_ne (by omega))).grown hg165 (some_ne (by omega))).grown hS170.grw (some_ne (by omega))).grown hg177 (some_ne (by omega)))
      refine wpo_storen (vs := [.int .i64 (1 + k121), .int .i64 k128, .bool (decide (0 < k135)), .bool (decide (k142 = 0)), .bool (decide (k161 = 0))]) (cs' := #[.int .i64 (1 + k121), .int .i64 k128, .bool (decide (0 < k135)), .bool (decide (k142 = 0)), .bool (decide (k161 = 0))]) rt_29 rfl rfl rfl (by simp [Value.oneCell']) k253 (Nat.le_of_ble_eq_true rfl) rfl ?_
      intro w254 hS255
      have hb256 := low1 hb179 hS255.grw (by omega)
      refine wpo_nil ?_
      refine wpf_ret ?_
      have k257 := (kR176.grown hS255.grw (some_ne (by omega)))
      refine ⟨.agg #[.int .i64 (1 + k121), .int .i64 k128, .bool (decide (0 < k135)), .bool (decide (k142 = 0)), .bool (decide (k161 = 0))], resC rfl (resCell_mk (vs := [.int .i64 (1 + k121), .int .i64 k128, .bool (decide (0 < k135)), .bool (decide (k142 = 0)), .bool (decide (k161 = 0))]) rt_29 rfl rfl (hS255.blk.rangeL 0 5 rfl)), ⟨1 + k121, k128, decide (0 < k135), decide (k142 = 0), decide (k161 = 0)⟩, (p + 1 + 1 + 1 + 1 + 1 + 1 + 1), rfl, show (-1 : Int) ≤ 1 + k121 by omega, show 1 + k121 ≤ (9 : Int) by omega, show (-1 : Int) ≤ k128 by omega, show k128 ≤ (9 : Int) by omega, by omega, by omega, k257, hb256⟩
  ·
   have h258 := nt_f h157
   have h259 := of_decide_eq_true h258
   refine wpf_skip ?_
   refine thn_n ?_
   refine wpf_seq ?_
   refine wpf_seq_region ?_
   refine wpo_move (v := .pointer (some ⟨R, 0, none⟩)) rfl rfl ?_
   have k260 := ((kR145.grown0 hN151.grw).grown hS155.grw (some_ne (by omega)))
   refine wpo_call (vs := [.pointer (some ⟨R, 0, none⟩), .int .i64 40]) gf_60 (args_cons rfl (args_cons rfl args_nil)) rfl (pick_c (p + 1 + 1 + 1 + 1 + 1) 40 (by omega) _ R bs _ _ _ k260 (by omega) (SlLt.low1 hs hb156 hlo) (by first | exact hb | exact fun b h => hb b (List.mem_of_mem_take h)) (by first | omega | (rw [List.length_take]; omega))) ?_
   rintro _ w266 ⟨k261, rfl, hk262, hk263, kR264, hg265⟩
   have hb267 := grown_trans hb156 hg265
   refine wpo_nil ?_
   refine wpf_block ?_
   refine wpf_seq_region ?_
   refine wpo_eql (q := decide (k261 = 0)) rfl rfl rfl rfl ?_
   refine wpo_assign (v := .bool (decide (k261 = 0))) rfl rfl ?_
   refine wpo_nil ?_
   refine wpf_cond rfl (fun h268 => ?_) (fun h268 => ?_)
   ·
    have h269 := of_decide_eq_true h268
    refine wpf_region ?_
    refine wpo_fieldAddr (o' := 4) fo_29_4 rfl rfl rfl ?_
    have k270 := (hS155.blk.grown hg265 (some_ne (by omega)))
    refine wpo_store1 (v := .bool true) (cs' := #[.int .i64 (1 + k121), .int .i64 k128, .bool (decide (0 < k135)), .bool (decide (k142 = 0)), .bool true]) ot_4 rfl rfl rfl k270 (Nat.le_of_ble_eq_true rfl) rfl ?_
    intro w271 hS272
    have hb273 := low1 hb267 hS272.grw (by omega)
    refine wpo_nil ?_
    refine blk_n ?_
    refine thn_n ?_
    refine wpf_seq_region ?_
    refine wpo_loadn (vs := [.int .i64 (1 + k121), .int .i64 k128, .bool (decide (0 < k135)), .bool (decide (k142 = 0)), .bool true]) rt_29 rfl rfl (hS272.blk.rangeL 0 5 rfl) rfl ?_
    have k274 := ((((k152.grown0 hN151.grw).grown hS155.grw (some_ne (by omega))).grown hg265 (some_ne (by omega))).grown hS272.grw (some_ne (by omega)))
    refine wpo_storen (vs := [.int .i64 (1 + k121), .int .i64 k128, .bool (decide (0 < k135)), .bool (decide (k142 = 0)), .bool true]) (cs' := #[.int .i64 (1 + k121), .int .i64 k128, .bool (decide (0 < k135)), .bool (decide (k142 = 0)), .bool true]) rt_29 rfl rfl rfl (by simp [Value.oneCell']) k274 (Nat.le_of_ble_eq_true rfl) rfl ?_
    intro w275 hS276
    have hb277 := low1 hb273 hS276.grw (by omega)
    refine wpo_nil ?_
    refine wpf_ret ?_
    have k278 := ((kR264.grown hS272.grw (some_ne (by omega))).grown hS276.grw (some_ne (by omega)))
    refine ⟨.agg #[.int .i64 (1 + k121), .int .i64 k128, .bool (decide (0 < k135)), .bool (decide (k142 = 0)), .bool true], resC rfl (resCell_mk (vs := [.int .i64 (1 + k121), .int .i64 k128, .bool (decide (0 < k135)), .bool (decide (k142 = 0)), .bool true]) rt_29 rfl rfl (hS276.blk.rangeL 0 5 rfl)), ⟨1 + k121, k128, decide (0 < k135), decide (k142 = 0), true⟩, (p + 1 + 1 + 1 + 1 + 1 + 1), rfl, show (-1 : Int) ≤ 1 + k121 by omega, show 1 + k121 ≤ (9 : Int) by omega, show (-1 : Int) ≤ k128 by omega, show k128 ≤ (9 : Int) by omega, by omega, by omega, k278, hb277⟩
   ·
    have h279 := of_decide_eq_false h268
    refine wpf_seq_region ?_
    refine wpo_eql (q := decide (k261 = 1)) rfl rfl rfl rfl ?_
    refine wpo_assign (v := .bool (decide (k261 = 1))) rfl rfl ?_
    refine wpo_nil ?_
    refine wpf_cond rfl (fun h280 => ?_) (fun h280 => ?_)
    ·
     have h281 := of_decide_eq_true h280
     refine wpf_region ?_
     refine wpo_buildSlice (ps := [(0, .int .i64 0), (1, .int .i64 9), (2, .int .i64 (-1))]) (e := 3) (cs := (([0, 9, (-1)] : List Int).flatMap icell).toArray) (parts_cons rfl (parts_cons rfl (parts_cons rfl parts_nil))) (fun _ => by kernel_rfl) rfl ?_
     intro B282 w283 hN284
     have hlB282 := hN_ge hN284 hb267
     have lt_R_B282 := hN_gtl hN284 (kR264).lt
     have k285 := (((k152.grown0 hN151.grw).grown hS155.grw (some_ne (by omega))).grown hg265 (some_ne (by omega)))
     have lt_B101_B282 := hN_gtl hN284 (k285).lt
     have k286 := (hS155.blk.grown hg265 (some_ne (by omega)))
     have lt_B149_B282 := hN_gtl hN284 (k286).lt
     have hb287 := low0 hb267 hN284.grw
     refine wpo_move (v := .pointer (some ⟨R, 0, none⟩)) rfl rfl ?_
     have k288 := (kR264.grown0 hN284.grw)
     refine wpo_call (vs := [.pointer (some ⟨R, 0, none⟩), .int .i64 3]) gf_60 (args_cons rfl (args_cons rfl args_nil)) rfl (pick_c (p + 1 + 1 + 1 + 1 + 1 + 1) 3 (by omega) _ R bs _ _ _ k288 (by omega) (SlLt.low1 hs hb287 hlo) (by first | exact hb | exact fun b h => hb b (List.mem_of_mem_take h)) (by first | omega | (rw [List.length_take]; omega))) ?_
     rintro _ w294 ⟨k289, rfl, hk290, hk291, kR292, hg293⟩
     have hb295 := grown_trans hb287 hg293
     refine wpo_indexAddr (o' := (k289).toNat * 1) es_43 rfl rfl (by omega) (by omega) (by omega) rfl ?_
     have k296 := (hN284.blk.grown hg293 (some_ne (by omega)))
     obtain ⟨x297, hx298⟩ := get_lt (l := ([0, 9, (-1)] : List Int)) (i := (k289).toNat) (show (k289).toNat < 3 by omega)
     have hm299 := List.mem_of_getElem? hx298
     simp only [List.mem_cons, List.not_mem_nil, or_false] at hm299
     refine wpo_load1 (v := .int .i64 x297) ot_3 rfl ((rows_range wide_int k296 hx298) 0 _ rfl) rfl ?_
     refine wpo_fieldAddr (o' := 0) fo_29_0 rfl rfl rfl ?_
     have k300 := ((k286.grown0 hN284.grw).grown hg293 (some_ne (by omega)))
     refine wpo_store1 (v := .int .i64 x297) (cs' := #[.int .i64 x297, .int .i64 k128, .bool (decide (0 < k135)), .bool (decide (k142 = 0)), .bool false]) ot_3 rfl rfl rfl k300 (Nat.le_of_ble_eq_true rfl) rfl ?_
     intro w301 hS302
     have hb303 := low1 hb295 hS302.grw (by omega)
     refine wpo_nil ?_
     refine blk_n ?_
     refine thn_n ?_
     refine wpf_seq_region ?_
     refine wpo_loadn (vs := [.int .i64 x297, .int .i64 k128, .bool (decide (0 < k135)), .bool (decide (k142 = 0)), .bool false]) rt_29 rfl rfl (hS302.blk.rangeL 0 5 rfl) rfl ?_
     have k304 := (((k285.grown0 hN284.grw).grown hg293 (some_ne (by omega))).grown hS302.grw (some_ne (by omega)))
     refine wpo_storen (vs := [.int .i64 x297, .int .i64 k128, .bool (decide (0 < k135)), .bool (decide (k142 = 0)), .bool false]) (cs' := #[.int .i64 x297, .int .i64 k128, .bool (decide (0 < k135)), .bool (decide (k142 = 0)), .bool false]) rt_29 rfl rfl rfl (by simp [Value.oneCell']) k304 (Nat.le_of_ble_eq_true rfl) rfl ?_
     intro w305 hS306
     have hb307 := low1 hb303 hS306.grw (by omega)
     refine wpo_nil ?_
     refine wpf_ret ?_
     have k308 := ((kR292.grown hS302.grw (some_ne (by omega))).grown hS306.grw (some_ne (by omega)))
     refine ⟨.agg #[.int .i64 x297, .int .i64 k128, .bool (decide (0 < k135)), .bool (decide (k142 = 0)), .bool false], resC rfl (resCell_mk (vs := [.int .i64 x297, .int .i64 k128, .bool (decide (0 < k135)), .bool (decide (k142 = 0)), .bool false]) rt_29 rfl rfl (hS306.blk.rangeL 0 5 rfl)), ⟨x297, k128, decide (0 < k135), decide (k142 = 0), false⟩, (p + 1 + 1 + 1 + 1 + 1 + 1 + 1), rfl, show (-1 : Int) ≤ x297 by omega, show x297 ≤ (9 : Int) by omega, show (-1 : Int) ≤ k128 by omega, show k128 ≤ (9 : Int) by omega, by omega, by omega, k308, hb307⟩
    ·
     have h309 := of_decide_eq_false h280
     refine wpf_seq_region ?_
     refine wpo_eql (q := decide (k261 = 2)) rfl rfl rfl rfl ?_
     refine wpo_assign (v := .bool (decide (k261 = 2))) rfl rfl ?_
     refine wpo_nil ?_
     refine wpf_cond rfl (fun h310 => ?_) (fun h310 => ?_)
     ·
      have h311 := of_decide_eq_true h310
      refine wpf_region ?_
      refine wpo_buildSlice (ps := [(0, .int .i64 (-1)), (1, .int .i64 5), (2, .int .i64 6)]) (e := 3) (cs := (([(-1), 5, 6] : List Int).flatMap icell).toArray) (parts_cons rfl (parts_cons rfl (parts_cons rfl parts_nil))) (fun _ => by kernel_rfl) rfl ?_
      intro B312 w313 hN314
      have hlB312 := hN_ge hN314 hb267
      have lt_R_B312 := hN_gtl hN314 (kR264).lt
      have k315 := (((k152.grown0 hN151.grw).grown hS155.grw (some_ne (by omega))).grown hg265 (some_ne (by omega)))
      have lt_B101_B312 := hN_gtl hN314 (k315).lt
      have k316 := (hS155.blk.grown hg265 (some_ne (by omega)))
      have lt_B149_B312 := hN_gtl hN314 (k316).lt
      have hb317 := low0 hb267 hN314.grw
      refine wpo_move (v := .pointer (some ⟨R, 0, none⟩)) rfl rfl ?_
      have k318 := (kR264.grown0 hN314.grw)
      refine wpo_call (vs := [.pointer (some ⟨R, 0, none⟩), .int .i64 3]) gf_60 (args_cons rfl (args_cons rfl args_nil)) rfl (pick_c (p + 1 + 1 + 1 + 1 + 1 + 1) 3 (by omega) _ R bs _ _ _ k318 (by omega) (SlLt.low1 hs hb317 hlo) (by first | exact hb | exact fun b h => hb b (List.mem_of_mem_take h)) (by first | omega | (rw [List.length_take]; omega))) ?_
      rintro _ w324 ⟨k319, rfl, hk320, hk321, kR322, hg323⟩
      have hb325 := grown_trans hb317 hg323
      refine wpo_indexAddr (o' := (k319).toNat * 1) es_43 rfl rfl (by omega) (by omega) (by omega) rfl ?_
      have k326 := (hN314.blk.grown hg323 (some_ne (by omega)))
      obtain ⟨x327, hx328⟩ := get_lt (l := ([(-1), 5, 6] : List Int)) (i := (k319).toNat) (show (k319).toNat < 3 by omega)
      have hm329 := List.mem_of_getElem? hx328
      simp only [List.mem_cons, List.not_mem_nil, or_false] at hm329
      refine wpo_load1 (v := .int .i64 x327) ot_3 rfl ((rows_range wide_int k326 hx328) 0 _ rfl) rfl ?_
      refine wpo_fieldAddr (o' := 1) fo_29_1 rfl rfl rfl ?_
      have k330 := ((k316.grown0 hN314.grw).grown hg323 (some_ne (by omega)))
      refine wpo_store1 (v := .int .i64 x327) (cs' := #[.int .i64 (1 + k121), .int .i64 x327, .bool (decide (0 < k135)), .bool (decide (k142 = 0)), .bool false]) ot_3 rfl rfl rfl k330 (Nat.le_of_ble_eq_true rfl) rfl ?_
      intro w331 hS332
      have hb333 := low1 hb325 hS332.grw (by omega)
      refine wpo_nil ?_
      refine blk_n ?_
      refine thn_n ?_
      refine wpf_seq_region ?_
      refine wpo_loadn (vs := [.int .i64 (1 + k121), .int .i64 x327, .bool (decide (0 < k135)), .bool (decide (k142 = 0)), .bool false]) rt_29 rfl rfl (hS332.blk.rangeL 0 5 rfl) rfl ?_
      have k334 := (((k315.grown0 hN314.grw).grown hg323 (some_ne (by omega))).grown hS332.grw (some_ne (by omega)))
      refine wpo_storen (vs := [.int .i64 (1 + k121), .int .i64 x327, .bool (decide (0 < k135)), .bool (decide (k142 = 0)), .bool false]) (cs' := #[.int .i64 (1 + k121), .int .i64 x327, .bool (decide (0 < k135)), .bool (decide (k142 = 0)), .bool false]) rt_29 rfl rfl rfl (by simp [Value.oneCell']) k334 (Nat.le_of_ble_eq_true rfl) rfl ?_
      intro w335 hS336
      have hb337 := low1 hb333 hS336.grw (by omega)
      refine wpo_nil ?_
      refine wpf_ret ?_
      have k338 := ((kR322.grown hS332.grw (some_ne (by omega))).grown hS336.grw (some_ne (by omega)))
      refine ⟨.agg #[.int .i64 (1 + k121), .int .i64 x327, .bool (decide (0 < k135)), .bool (decide (k142 = 0)), .bool false], resC rfl (resCell_mk (vs := [.int .i64 (1 + k121), .int .i64 x327, .bool (decide (0 < k135)), .bool (decide (k142 = 0)), .bool false]) rt_29 rfl rfl (hS336.blk.rangeL 0 5 rfl)), ⟨1 + k121, x327, decide (0 < k135), decide (k142 = 0), false⟩, (p + 1 + 1 + 1 + 1 + 1 + 1 + 1), rfl, show (-1 : Int) ≤ 1 + k121 by omega, show 1 + k121 ≤ (9 : Int) by omega, show (-1 : Int) ≤ x327 by omega, show x327 ≤ (9 : Int) by omega, by omega, by omega, k338, hb337⟩
     ·
      have h339 := of_decide_eq_false h310
      refine wpf_skip ?_
      refine blk_n ?_
      refine thn_n ?_
      refine wpf_seq_region ?_
      have k340 := (hS155.blk.grown hg265 (some_ne (by omega)))
      refine wpo_loadn (vs := [.int .i64 (1 + k121), .int .i64 k128, .bool (decide (0 < k135)), .bool (decide (k142 = 0)), .bool false]) rt_29 rfl rfl (k340.rangeL 0 5 rfl) rfl ?_
      have k341 := (((k152.grown0 hN151.grw).grown hS155.grw (some_ne (by omega))).grown hg265 (some_ne (by omega)))
      refine wpo_storen (vs := [.int .i64 (1 + k121), .int .i64 k128, .bool (decide (0 < k135)), .bool (decide (k142 = 0)), .bool false]) (cs' := #[.int .i64 (1 + k121), .int .i64 k128, .bool (decide (0 < k135)), .bool (decide (k142 = 0)), .bool false]) rt_29 rfl rfl rfl (by simp [Value.oneCell']) k341 (Nat.le_of_ble_eq_true rfl) rfl ?_
      intro w342 hS343
      have hb344 := low1 hb267 hS343.grw (by omega)
      refine wpo_nil ?_
      refine wpf_ret ?_
      have k345 := (kR264.grown hS343.grw (some_ne (by omega)))
      refine ⟨.agg #[.int .i64 (1 + k121), .int .i64 k128, .bool (decide (0 < k135)), .bool (decide (k142 = 0)), .bool false], resC rfl (resCell_mk (vs := [.int .i64 (1 + k121), .int .i64 k128, .bool (decide (0 < k135)), .bool (decide (k142 = 0)), .bool false]) rt_29 rfl rfl (hS343.blk.rangeL 0 5 rfl)), ⟨1 + k121, k128, decide (0 < k135), decide (k142 = 0), false⟩, (p + 1 + 1 + 1 + 1 + 1 + 1), rfl, show (-1 : Int) ≤ 1 + k121 by omega, show 1 + k121 ≤ (9 : Int) by omega, show (-1 : Int) ≤ k128 by omega, show k128 ≤ (9 : Int) by omega, by omega, by omega, k345, hb344⟩
theorem l6Open_c (bs : List Int) (a : Option Addr) (c : Nat) (w : World) (hn : bs.length ≤ 1048576) (hc : bs.length ≤ c) : CallsR Try.prog 59 #[.slice a bs.length c] w (fun v w' => ∃ R : Nat, v = .pointer (some ⟨R, 0, none⟩) ∧ w.heap.size ≤ R ∧ Blk w' R 121 #[.slice a (bs.take 2000).length c, .int .i64 0] ∧ w.grownBy w' none) := by
 refine calls_of_wpf (n := 11) Try.func59 rfl Try.ntmps59 rfl ?_
 have hb0 := World.grownBy.refl w none
 refine wpf_seq_region ?_
 refine wpo_assign (v := .pointer none) rfl rfl ?_
 refine wpo_nil ?_
 refine wpf_seq ?_
 refine wpf_seq_region ?_
 refine wpo_move (v := .slice a bs.length c) rfl rfl ?_
 refine wpo_len (by kernel_rfl) rfl rfl ?_
 refine wpo_gtr (q := decide (2000 < (bs.length : Int))) rfl rfl rfl rfl ?_
 refine wpo_nil ?_
 refine wpf_cond rfl (fun h101 => ?_) (fun h101 => ?_)
 ·
  have h102 := of_decide_eq_true h101
  refine wpf_region ?_
  refine wpo_move (v := .slice a bs.length c) rfl rfl ?_
  refine wpo_cut (e := 5) (sz := 1) (h := 2000) (by kernel_rfl) (by kernel_rfl) rfl rfl (by omega) rfl ?_
  refine wpo_assign (v := .slice a 2000 c) rfl rfl ?_
  refine wpo_nil ?_
  refine thn_n ?_
  refine wpf_seq_region ?_
  refine wpo_move (v := .slice a 2000 c) rfl rfl ?_
  refine wpo_build (ps := [(0, .slice a 2000 c)]) (v := .agg #[.slice a 2000 c, .int .i64 0]) (parts_cons rfl parts_nil) (by kernel_rfl) rfl ?_
  refine wpo_box (v := .agg #[.slice a 2000 c, .int .i64 0]) (cs := #[.slice a 2000 c, .int .i64 0]) rfl rfl rfl ?_
  intro B103 w104 hN105
  have hlB103 := hN_ge hN105 hb0
  have hb106 := low0 hb0 hN105.grw
  refine wpo_assign (v := .pointer (some ⟨B103, 0, none⟩)) rfl rfl ?_
  refine wpo_nil ?_
  refine wpf_ret ?_
  have hlen : 2000 = (bs.take 2000).length := by rw [List.length_take]; omega
  have kk := hN105.blk
  rw [hlen] at kk
  refine ⟨.pointer (some ⟨B103, 0, none⟩), res1 rfl rfl, B103, rfl, hlB103, kk, hb106⟩
 ·
  have h107 := of_decide_eq_false h101
  refine wpf_skip ?_
  refine thn_n ?_
  refine wpf_seq_region ?_
  refine wpo_move (v := .slice a bs.length c) rfl rfl ?_
  refine wpo_build (ps := [(0, .slice a bs.length c)]) (v := .agg #[.slice a bs.length c, .int .i64 0]) (parts_cons rfl parts_nil) (by kernel_rfl) rfl ?_
  refine wpo_box (v := .agg #[.slice a bs.length c, .int .i64 0]) (cs := #[.slice a bs.length c, .int .i64 0]) rfl rfl rfl ?_
  intro B108 w109 hN110
  have hlB108 := hN_ge hN110 hb0
  have hb111 := low0 hb0 hN110.grw
  refine wpo_assign (v := .pointer (some ⟨B108, 0, none⟩)) rfl rfl ?_
  refine wpo_nil ?_
  refine wpf_ret ?_
  have hlen : bs.length = (bs.take 2000).length := by rw [List.length_take]; omega
  have kk := hN110.blk
  rw [hlen] at kk
  refine ⟨.pointer (some ⟨B108, 0, none⟩), res1 rfl rfl, B108, rfl, hlB108, kk, hb111⟩
theorem at_96 : arrTy Try.prog 96 = some (4, 29, 5) := by kernel_rfl
theorem fo_45_0 : fieldOff Try.prog 45 0 = some 0 := by kernel_rfl
theorem fo_45_1 : fieldOff Try.prog 45 1 = some 1 := by kernel_rfl
theorem fo_45_2 : fieldOff Try.prog 45 2 = some 3 := by kernel_rfl
theorem fo_45_3 : fieldOff Try.prog 45 3 = some 4 := by kernel_rfl
theorem fo_45_4 : fieldOff Try.prog 45 4 = some 5 := by kernel_rfl
theorem fo_45_5 : fieldOff Try.prog 45 5 = some 6 := by kernel_rfl
theorem fo_45_6 : fieldOff Try.prog 45 6 = some 7 := by kernel_rfl
theorem gf_35 : goFn Try.prog 35 = true := by kernel_rfl
theorem gf_66 : goFn Try.prog 66 = true := by kernel_rfl
theorem gf_69 : goFn Try.prog 69 = true := by kernel_rfl
theorem gf_71 : goFn Try.prog 71 = true := by kernel_rfl
theorem gf_72 : goFn Try.prog 72 = true := by kernel_rfl
theorem gf_73 : goFn Try.prog 73 = true := by kernel_rfl
theorem gf_74 : goFn Try.prog 74 = true := by kernel_rfl
theorem gf_75 : goFn Try.prog 75 = true := by kernel_rfl
theorem ot_27 : oneTy Try.prog 27 = true := by kernel_rfl
theorem ot_43 : oneTy Try.prog 43 = true := by kernel_rfl
theorem rt_45 : rowTy Try.prog 45 = some 8 := by kernel_rfl
theorem rt_96 : rowTy Try.prog 96 = some 20 := by kernel_rfl
theorem versOk_c (m : MTh) (w : World) : CallsR Try.prog 71 #[.agg #[.int .i64 m.t.kind, .int .i64 m.t.lab.s, .int .i64 m.t.lab.v, .int .i64 m.t.ve, .int .i64 m.t.num, .slice m.sa m.t.slots.length m.sc, .slice m.qa m.t.queue.length m.qc, .int .i64 m.t.to]] w (fun v w' => v = .bool (versOk m.t) ∧ w.grownBy w' none) := by
 refine calls_of_wpf (n := 15) Try.func71 rfl Try.ntmps71 rfl ?_
 have hb0 := World.grownBy.refl w none
 refine wpf_seq_region ?_
 refine wpo_box (v := .agg #[.int .i64 m.t.kind, .int .i64 m.t.lab.s, .int .i64 m.t.lab.v, .int .i64 m.t.ve, .int .i64 m.t.num, .slice m.sa m.t.slots.length m.sc, .slice m.qa m.t.queue.length m.qc, .int .i64 m.t.to]) (cs := #[.int .i64 m.t.kind, .int .i64 m.t.lab.s, .int .i64 m.t.lab.v, .int .i64 m.t.ve, .int .i64 m.t.num, .slice m.sa m.t.slots.length m.sc, .slice m.qa m.t.queue.length m.qc, .int .i64 m.t.to]) rfl rfl rfl ?_
 intro B101 w102 hN103
 have hlB101 := hN_ge hN103 hb0
 have hb104 := low0 hb0 hN103.grw
 refine wpo_assign (v := .bool false) rfl rfl ?_
 refine wpo_nil ?_
 refine wpf_seq ?_
 refine wpf_seq_region ?_
 refine wpo_fieldAddr (o' := 0) fo_45_0 rfl rfl rfl ?_
 refine wpo_load1 (v := .int .i64 m.t.kind) ot_3 rfl (hN103.blk.cell rfl) rfl ?_
 refine wpo_nil ?_
 refine wpf_block ?_
 refine wpf_seq ?_
 refine wpf_seq_region ?_
 refine wpo_eql (q := decide (m.t.kind = 1)) rfl rfl rfl rfl ?_
 refine wpo_assign (v := .bool (decide (m.t.kind = 1))) rfl rfl ?_
 refine wpo_nil ?_
 refine wpf_cond rfl (fun h105 => ?_) (fun h105 => ?_)
 ·
  have h106 := of_decide_eq_true h105
  refine wpf_skip ?_
  refine thn_n ?_
  refine wpf_condt rfl h105 ?_
  refine wpf_seq_region ?_
  refine wpo_fieldAddr (o' := 3) fo_45_2 rfl rfl rfl ?_
  refine wpo_load1 (v := .int .i64 m.t.ve) ot_3 rfl (hN103.blk.cell rfl) rfl ?_
  refine wpo_call (vs := [.int .i64 m.t.ve, .int .i64 0, .int .i64 5]) gf_69 (args_cons rfl (args_cons rfl (args_cons rfl args_nil))) rfl (inRange_c m.t.ve 0 5 _) ?_
  rintro _ w107 ⟨rfl, hg108⟩
  have hb109 := low0 hb104 hg108
  refine wpo_assign (v := .bool (inR m.t.ve 0 5)) rfl rfl ?_
  refine wpo_nil ?_
  refine wpf_ret ?_
  refine blk_r ?_
  refine thn_r ?_
  refine ⟨.bool (inR m.t.ve 0 5), res1 rfl rfl, ?_, hb109⟩
  first | (simp [versOk, h106]; done) | (simp [versOk, h106]; omega) | (simp [versOk, h106]; intros; omega)
 ·
  have h110 := of_decide_eq_false h105
  refine wpf_seq_region ?_
  refine wpo_eql (q := decide (m.t.kind = 2)) rfl rfl rfl rfl ?_
  refine wpo_assign (v := .bool (decide (m.t.kind = 2))) rfl rfl ?_
  refine wpo_nil ?_
  refine wpf_cond rfl (fun h111 => ?_) (fun h111 => ?_)
  ·
   have h112 := of_decide_eq_true h111
   refine wpf_skip ?_
   refine thn_n ?_
   refine wpf_condt rfl h111 ?_
   refine wpf_seq_region ?_
   refine wpo_fieldAddr (o' := 3) fo_45_2 rfl rfl rfl ?_
   refine wpo_load1 (v := .int .i64 m.t.ve) ot_3 rfl (hN103.blk.cell rfl) rfl ?_
   refine wpo_call (vs := [.int .i64 m.t.ve, .int .i64 0, .int .i64 5]) gf_69 (args_cons rfl (args_cons rfl (args_cons rfl args_nil))) rfl (inRange_c m.t.ve 0 5 _) ?_
   rintro _ w113 ⟨rfl, hg114⟩
   have hb115 := low0 hb104 hg114
   refine wpo_assign (v := .bool (inR m.t.ve 0 5)) rfl rfl ?_
   refine wpo_nil ?_
   refine wpf_ret ?_
   refine blk_r ?_
   refine thn_r ?_
   refine ⟨.bool (inR m.t.ve 0 5), res1 rfl rfl, ?_, hb115⟩
   first | (simp [versOk, h110, h112]; done) | (simp [versOk, h110, h112]; omega) | (simp [versOk, h110, h112]; intros; omega)
  ·
   have h116 := of_decide_eq_false h111
   refine wpf_region ?_
   refine wpo_eql (q := decide (m.t.kind = 4)) rfl rfl rfl rfl ?_
   refine wpo_assign (v := .bool (decide (m.t.kind = 4))) rfl rfl ?_
   refine wpo_nil ?_
   refine thn_n ?_
   refine wpf_cond rfl (fun h117 => ?_) (fun h117 => ?_)
   ·
    have h118 := of_decide_eq_true h117
    refine wpf_seq_region ?_
    refine wpo_fieldAddr (o' := 3) fo_45_2 rfl rfl rfl ?_
    refine wpo_load1 (v := .int .i64 m.t.ve) ot_3 rfl (hN103.blk.cell rfl) rfl ?_
    refine wpo_call (vs := [.int .i64 m.t.ve, .int .i64 0, .int .i64 5]) gf_69 (args_cons rfl (args_cons rfl (args_cons rfl args_nil))) rfl (inRange_c m.t.ve 0 5 _) ?_
    rintro _ w119 ⟨rfl, hg120⟩
    have hb121 := low0 hb104 hg120
    refine wpo_assign (v := .bool (inR m.t.ve 0 5)) rfl rfl ?_
    refine wpo_nil ?_
    refine wpf_ret ?_
    refine blk_r ?_
    refine thn_r ?_
    refine ⟨.bool (inR m.t.ve 0 5), res1 rfl rfl, ?_, hb121⟩
    first | (simp [versOk, h110, h116, h118]; done) | (simp [versOk, h110, h116, h118]; omega) | (simp [versOk, h110, h116, h118]; intros; omega)
   ·
    have h122 := of_decide_eq_false h117
    refine wpf_skip ?_
    refine blk_n ?_
    refine thn_n ?_
    refine wpf_seq_region ?_
    refine wpo_fieldAddr (o' := 3) fo_45_2 rfl rfl rfl ?_
    refine wpo_load1 (v := .int .i64 m.t.ve) ot_3 rfl (hN103.blk.cell rfl) rfl ?_
    refine wpo_eql (q := decide (m.t.ve = 0)) rfl rfl rfl rfl ?_
    refine wpo_assign (v := .bool (decide (m.t.ve = 0))) rfl rfl ?_
    refine wpo_nil ?_
    refine wpf_ret ?_
    refine ⟨.bool (decide (m.t.ve = 0)), res1 rfl rfl, ?_, hb104⟩
    first | (simp [versOk, h110, h116, h122]; done) | (simp [versOk, h110, h116, h122]; omega) | (simp [versOk, h110, h116, h122]; intros; omega)
theorem numOk_c (m : MTh) (w : World) : CallsR Try.prog 72 #[.agg #[.int .i64 m.t.kind, .int .i64 m.t.lab.s, .int .i64 m.t.lab.v, .int .i64 m.t.ve, .int .i64 m.t.num, .slice m.sa m.t.slots.length m.sc, .slice m.qa m.t.queue.length m.qc, .int .i64 m.t.to]] w (fun v w' => v = .bool (numOk m.t) ∧ w.grownBy w' none) := by
 refine calls_of_wpf (n := 19) Try.func72 rfl Try.ntmps72 rfl ?_
 have hb0 := World.grownBy.refl w none
 refine wpf_seq_region ?_
 refine wpo_box (v := .agg #[.int .i64 m.t.kind, .int .i64 m.t.lab.s, .int .i64 m.t.lab.v, .int .i64 m.t.ve, .int .i64 m.t.num, .slice m.sa m.t.slots.length m.sc, .slice m.qa m.t.queue.length m.qc, .int .i64 m.t.to]) (cs := #[.int .i64 m.t.kind, .int .i64 m.t.lab.s, .int .i64 m.t.lab.v, .int .i64 m.t.ve, .int .i64 m.t.num, .slice m.sa m.t.slots.length m.sc, .slice m.qa m.t.queue.length m.qc, .int .i64 m.t.to]) rfl rfl rfl ?_
 intro B101 w102 hN103
 have hlB101 := hN_ge hN103 hb0
 have hb104 := low0 hb0 hN103.grw
 refine wpo_assign (v := .bool false) rfl rfl ?_
 refine wpo_nil ?_
 refine wpf_seq ?_
 refine wpf_seq_region ?_
 refine wpo_fieldAddr (o' := 0) fo_45_0 rfl rfl rfl ?_
 refine wpo_load1 (v := .int .i64 m.t.kind) ot_3 rfl (hN103.blk.cell rfl) rfl ?_
 refine wpo_nil ?_
 refine wpf_block ?_
 refine wpf_seq ?_
 refine wpf_seq_region ?_
 refine wpo_eql (q := decide (m.t.kind = 1)) rfl rfl rfl rfl ?_
 refine wpo_assign (v := .bool (decide (m.t.kind = 1))) rfl rfl ?_
 refine wpo_nil ?_
 refine wpf_cond rfl (fun h105 => ?_) (fun h105 => ?_)
 ·
  have h106 := of_decide_eq_true h105
  refine wpf_skip ?_
  refine thn_n ?_
  refine wpf_condt rfl h105 ?_
  refine wpf_seq_region ?_
  refine wpo_fieldAddr (o' := 4) fo_45_3 rfl rfl rfl ?_
  refine wpo_load1 (v := .int .i64 m.t.num) ot_3 rfl (hN103.blk.cell rfl) rfl ?_
  refine wpo_call (vs := [.int .i64 m.t.num, .int .i64 0, .int .i64 99]) gf_69 (args_cons rfl (args_cons rfl (args_cons rfl args_nil))) rfl (inRange_c m.t.num 0 99 _) ?_
  rintro _ w107 ⟨rfl, hg108⟩
  have hb109 := low0 hb104 hg108
  refine wpo_assign (v := .bool (inR m.t.num 0 99)) rfl rfl ?_
  refine wpo_nil ?_
  refine wpf_ret ?_
  refine blk_r ?_
  refine thn_r ?_
  refine ⟨.bool (inR m.t.num 0 99), res1 rfl rfl, ?_, hb109⟩
  first | (simp [numOk, h106]; done) | (simp [numOk, h106]; omega) | (simp [numOk, h106]; intros; omega)
 ·
  have h110 := of_decide_eq_false h105
  refine wpf_region ?_
  refine wpo_eql (q := decide (m.t.kind = 5)) rfl rfl rfl rfl ?_
  refine wpo_assign (v := .bool (decide (m.t.kind = 5))) rfl rfl ?_
  refine wpo_nil ?_
  refine thn_n ?_
  refine wpf_cond rfl (fun h111 => ?_) (fun h111 => ?_)
  ·
   have h112 := of_decide_eq_true h111
   refine wpf_seq_region ?_
   refine wpo_fieldAddr (o' := 4) fo_45_3 rfl rfl rfl ?_
   refine wpo_load1 (v := .int .i64 m.t.num) ot_3 rfl (hN103.blk.cell rfl) rfl ?_
   refine wpo_call (vs := [.int .i64 m.t.num, .int .i64 0, .int .i64 99]) gf_69 (args_cons rfl (args_cons rfl (args_cons rfl args_nil))) rfl (inRange_c m.t.num 0 99 _) ?_
   rintro _ w113 ⟨rfl, hg114⟩
   have hb115 := low0 hb104 hg114
   refine wpo_assign (v := .bool (inR m.t.num 0 99)) rfl rfl ?_
   refine wpo_nil ?_
   refine wpf_ret ?_
   refine blk_r ?_
   refine thn_r ?_
   refine ⟨.bool (inR m.t.num 0 99), res1 rfl rfl, ?_, hb115⟩
   first | (simp [numOk, h110, h112]; done) | (simp [numOk, h110, h112]; omega) | (simp [numOk, h110, h112]; intros; omega)
  ·
   have h116 := of_decide_eq_false h111
   refine wpf_seq_region ?_
   refine wpo_eql (q := decide (m.t.kind = 3)) rfl rfl rfl rfl ?_
   refine wpo_assign (v := .bool (decide (m.t.kind = 3))) rfl rfl ?_
   refine wpo_nil ?_
   refine wpf_cond rfl (fun h117 => ?_) (fun h117 => ?_)
   ·
    have h118 := of_decide_eq_true h117
    refine wpf_seq_region ?_
    refine wpo_fieldAddr (o' := 4) fo_45_3 rfl rfl rfl ?_
    refine wpo_load1 (v := .int .i64 m.t.num) ot_3 rfl (hN103.blk.cell rfl) rfl ?_
    refine wpo_call (vs := [.int .i64 m.t.num, .int .i64 (-4), .int .i64 99]) gf_69 (args_cons rfl (args_cons rfl (args_cons rfl args_nil))) rfl (inRange_c m.t.num (-4) 99 _) ?_
    rintro _ w119 ⟨rfl, hg120⟩
    have hb121 := low0 hb104 hg120
    refine wpo_assign (v := .bool (inR m.t.num (-4) 99)) rfl rfl ?_
    refine wpo_nil ?_
    refine wpf_ret ?_
    refine blk_r ?_
    refine thn_r ?_
    refine ⟨.bool (inR m.t.num (-4) 99), res1 rfl rfl, ?_, hb121⟩
    first | (simp [numOk, h110, h116, h118]; done) | (simp [numOk, h110, h116, h118]; omega) | (simp [numOk, h110, h116, h118]; intros; omega)
   ·
    have h122 := of_decide_eq_false h117
    refine wpf_skip ?_
    refine blk_n ?_
    refine thn_n ?_
    refine wpf_seq_region ?_
    refine wpo_fieldAddr (o' := 4) fo_45_3 rfl rfl rfl ?_
    refine wpo_load1 (v := .int .i64 m.t.num) ot_3 rfl (hN103.blk.cell rfl) rfl ?_
    refine wpo_eql (q := decide (m.t.num = 0)) rfl rfl rfl rfl ?_
    refine wpo_assign (v := .bool (decide (m.t.num = 0))) rfl rfl ?_
    refine wpo_nil ?_
    refine wpf_ret ?_
    refine ⟨.bool (decide (m.t.num = 0)), res1 rfl rfl, ?_, hb104⟩
    first | (simp [numOk, h110, h116, h122]; done) | (simp [numOk, h110, h116, h122]; omega) | (simp [numOk, h110, h116, h122]; intros; omega)
theorem targetOk_c (m : MTh) (w : World) : CallsR Try.prog 75 #[.agg #[.int .i64 m.t.kind, .int .i64 m.t.lab.s, .int .i64 m.t.lab.v, .int .i64 m.t.ve, .int .i64 m.t.num, .slice m.sa m.t.slots.length m.sc, .slice m.qa m.t.queue.length m.qc, .int .i64 m.t.to]] w (fun v w' => v = .bool (targetOk m.t) ∧ w.grownBy w' none) := by
 refine calls_of_wpf (n := 12) Try.func75 rfl Try.ntmps75 rfl ?_
 have hb0 := World.grownBy.refl w none
 refine wpf_seq_region ?_
 refine wpo_box (v := .agg #[.int .i64 m.t.kind, .int .i64 m.t.lab.s, .int .i64 m.t.lab.v, .int .i64 m.t.ve, .int .i64 m.t.num, .slice m.sa m.t.slots.length m.sc, .slice m.qa m.t.queue.length m.qc, .int .i64 m.t.to]) (cs := #[.int .i64 m.t.kind, .int .i64 m.t.lab.s, .int .i64 m.t.lab.v, .int .i64 m.t.ve, .int .i64 m.t.num, .slice m.sa m.t.slots.length m.sc, .slice m.qa m.t.queue.length m.qc, .int .i64 m.t.to]) rfl rfl rfl ?_
 intro B101 w102 hN103
 have hlB101 := hN_ge hN103 hb0
 have hb104 := low0 hb0 hN103.grw
 refine wpo_assign (v := .bool false) rfl rfl ?_
 refine wpo_nil ?_
 refine wpf_seq ?_
 refine wpf_seq_region ?_
 refine wpo_fieldAddr (o' := 0) fo_45_0 rfl rfl rfl ?_
 refine wpo_load1 (v := .int .i64 m.t.kind) ot_3 rfl (hN103.blk.cell rfl) rfl ?_
 refine wpo_eql (q := decide (m.t.kind = 5)) rfl rfl rfl rfl ?_
 refine wpo_nil ?_
 refine wpf_cond rfl (fun h105 => ?_) (fun h105 => ?_)
 ·
  have h106 := of_decide_eq_true h105
  refine wpf_seq_region ?_
  refine wpo_fieldAddr (o' := 7) fo_45_6 rfl rfl rfl ?_
  refine wpo_load1 (v := .int .i64 m.t.to) ot_3 rfl (hN103.blk.cell rfl) rfl ?_
  refine wpo_call (vs := [.int .i64 m.t.to, .int .i64 1, .int .i64 8]) gf_69 (args_cons rfl (args_cons rfl (args_cons rfl args_nil))) rfl (inRange_c m.t.to 1 8 _) ?_
  rintro _ w107 ⟨rfl, hg108⟩
  have hb109 := low0 hb104 hg108
  refine wpo_assign (v := .bool (inR m.t.to 1 8)) rfl rfl ?_
  refine wpo_nil ?_
  refine wpf_ret ?_
  refine thn_r ?_
  refine ⟨.bool (inR m.t.to 1 8), res1 rfl rfl, ?_, hb109⟩
  first | (simp [targetOk, h106]; done) | (simp [targetOk, h106]; omega) | (simp [targetOk, h106]; intros; omega)
 ·
  have h110 := of_decide_eq_false h105
  refine wpf_skip ?_
  refine thn_n ?_
  refine wpf_seq_region ?_
  refine wpo_fieldAddr (o' := 7) fo_45_6 rfl rfl rfl ?_
  refine wpo_load1 (v := .int .i64 m.t.to) ot_3 rfl (hN103.blk.cell rfl) rfl ?_
  refine wpo_eql (q := decide (m.t.to = 0)) rfl rfl rfl rfl ?_
  refine wpo_assign (v := .bool (decide (m.t.to = 0))) rfl rfl ?_
  refine wpo_nil ?_
  refine wpf_ret ?_
  refine ⟨.bool (decide (m.t.to = 0)), res1 rfl rfl, ?_, hb104⟩
  first | (simp [targetOk, h110]; done) | (simp [targetOk, h110]; omega) | (simp [targetOk, h110]; intros; omega)
theorem queueOk_c (m : MTh) (w : World) (hs : SlAt w m.sa 5 (m.t.slots.map Rt.cells)) (hq : SlAt w m.qa 1 (m.t.queue.map icell)) (hsl : m.t.slots.length ≤ 9223372036854775806) (hql : m.t.queue.length ≤ 9223372036854775806) : CallsR Try.prog 74 #[.agg #[.int .i64 m.t.kind, .int .i64 m.t.lab.s, .int .i64 m.t.lab.v, .int .i64 m.t.ve, .int .i64 m.t.num, .slice m.sa m.t.slots.length m.sc, .slice m.qa m.t.queue.length m.qc, .int .i64 m.t.to]] w (fun v w' => v = .bool (queueOk m.t) ∧ w.grownBy w' none) := by
 refine calls_of_wpf (n := 27) Try.func74 rfl Try.ntmps74 rfl ?_
 have hb0 := World.grownBy.refl w none
 refine wpf_seq_region ?_
 refine wpo_box (v := .agg #[.int .i64 m.t.kind, .int .i64 m.t.lab.s, .int .i64 m.t.lab.v, .int .i64 m.t.ve, .int .i64 m.t.num, .slice m.sa m.t.slots.length m.sc, .slice m.qa m.t.queue.length m.qc, .int .i64 m.t.to]) (cs := #[.int .i64 m.t.kind, .int .i64 m.t.lab.s, .int .i64 m.t.lab.v, .int .i64 m.t.ve, .int .i64 m.t.num, .slice m.sa m.t.slots.length m.sc, .slice m.qa m.t.queue.length m.qc, .int .i64 m.t.to]) rfl rfl rfl ?_
 intro B101 w102 hN103
 have hlB101 := hN_ge hN103 hb0
 have hb104 := low0 hb0 hN103.grw
 refine wpo_assign (v := .bool false) rfl rfl ?_
 refine wpo_nil ?_
 refine wpf_seq ?_
 refine wpf_seq_region ?_
 refine wpo_fieldAddr (o' := 0) fo_45_0 rfl rfl rfl ?_
 refine wpo_load1 (v := .int .i64 m.t.kind) ot_3 rfl (hN103.blk.cell rfl) rfl ?_
 refine wpo_neq (q := !(decide (m.t.kind = 4))) rfl rfl rfl rfl ?_
 refine wpo_nil ?_
 refine wpf_cond rfl (fun h105 => ?_) (fun h105 => ?_)
 ·
  have h106 := nt_t h105
  have h107 := of_decide_eq_false h106
  refine wpf_seq_region ?_
  refine wpo_fieldAddr (o' := 6) fo_45_5 rfl rfl rfl ?_
  refine wpo_load1 (v := .slice m.qa m.t.queue.length m.qc) ot_43 rfl (hN103.blk.cell rfl) rfl ?_
  refine wpo_len (by kernel_rfl) rfl rfl ?_
  refine wpo_eql (q := decide ((m.t.queue.length : Int) = 0)) rfl rfl rfl rfl ?_
  refine wpo_assign (v := .bool (decide ((m.t.queue.length : Int) = 0))) rfl rfl ?_
  refine wpo_nil ?_
  refine wpf_ret ?_
  refine thn_r ?_
  refine ⟨.bool (decide ((m.t.queue.length : Int) = 0)), res1 rfl rfl, ?_, hb104⟩
  first | (simp [queueOk, h107]; done) | (simp [queueOk, h107]; omega) | (simp [queueOk, h107]; intros; omega)
 ·
  have h108 := nt_f h105
  have h109 := of_decide_eq_true h108
  refine wpf_skip ?_
  refine thn_n ?_
  refine wpf_seq ?_
  refine wpf_seq_region ?_
  refine wpo_fieldAddr (o' := 6) fo_45_5 rfl rfl rfl ?_
  refine wpo_load1 (v := .slice m.qa m.t.queue.length m.qc) ot_43 rfl (hN103.blk.cell rfl) rfl ?_
  refine wpo_len (by kernel_rfl) rfl rfl ?_
  refine wpo_gtr (q := decide (3 < (m.t.queue.length : Int))) rfl rfl rfl rfl ?_
  refine wpo_nil ?_
  refine wpf_cond rfl (fun h110 => ?_) (fun h110 => ?_)
  ·
   have h111 := of_decide_eq_true h110
   refine wpf_seq_region ?_
   refine wpo_assign (v := .bool false) rfl rfl ?_
   refine wpo_nil ?_
   refine wpf_ret ?_
   refine thn_r ?_
   refine ⟨.bool false, res1 rfl rfl, ?_, hb104⟩
   first | (simp [queueOk, h109, h111]; done) | (simp [queueOk, h109, h111]; omega) | (simp [queueOk, h109, h111]; intros; omega)
  ·
   have h112 := of_decide_eq_false h110
   refine wpf_skip ?_
   refine thn_n ?_
   refine wpf_seq ?_
   refine wpf_seq_region ?_
   refine wpo_fieldAddr (o' := 6) fo_45_5 rfl rfl rfl ?_
   refine wpo_load1 (v := .slice m.qa m.t.queue.length m.qc) ot_43 rfl (hN103.blk.cell rfl) rfl ?_
   refine wpo_len (by kernel_rfl) rfl rfl ?_
   refine wpo_move (v := .int .i64 0) rfl rfl ?_
   refine wpo_nil ?_
   refine wpf_block ?_
   refine wpf_loopN (fun mm f' w' => ∃ (k : Nat), mm = m.t.queue.length - k ∧ k ≤ m.t.queue.length ∧ ((m.t.queue.take k).all numQ) = true ∧ f' 19 = .int .i64 (k : Int) ∧ f' 17 = .slice m.qa m.t.queue.length m.qc ∧ f' 18 = .int .i64 (m.t.queue.length : Int) ∧ w.grownBy w' none) (m.t.queue.length - 0) ⟨0, rfl, (Nat.zero_le _), rfl, rfl, rfl, rfl, hb104⟩ ?_
   rintro mm f113 w114 ⟨k, hm116, hk, ha, e117, e118, e119, hb115⟩
   refine wpf_seq_region ?_
   refine wpo_lss (q := decide ((k : Int) < (m.t.queue.length : Int))) e117 e119 rfl rfl ?_
   refine wpo_nil ?_
   refine wpf_seq ?_
   refine wpf_cond rfl (fun h120 => ?_) (fun h120 => ?_)
   ·
    have h121 := of_decide_eq_true h120
    refine wpf_skip ?_
    refine thn_n ?_
    refine wpf_seq ?_
    refine wpf_block ?_
    refine wpf_seq_region ?_
    obtain ⟨x122, hx123⟩ := get_lt (l := m.t.queue) (i := k) (by omega)
    obtain ⟨b124, q125, o126, ha127, ho128, hr129⟩ := SlAt.at hq (map_get hx123)
    refine wpo_indexE es_43 e118 e117 ha127 ho128 (by omega) (by omega) rfl ?_
    refine wpo_load1 (v := .int .i64 x122) ot_3 rfl ((range_low hr129 hb115) 0 _ rfl) rfl ?_
    refine wpo_assign (v := .int .i64 x122) rfl rfl ?_
    refine wpo_nil ?_
    refine wpf_seq_region ?_
    refine wpo_move (v := .int .i64 x122) rfl rfl ?_
    refine wpo_call (vs := [.int .i64 x122, .int .i64 0, .int .i64 99]) gf_69 (args_cons rfl (args_cons rfl (args_cons rfl args_nil))) rfl (inRange_c x122 0 99 _) ?_
    rintro _ w130 ⟨rfl, hg131⟩
    have hb132 := low0 hb115 hg131
    refine wpo_not (b' := !inR x122 0 99) rfl rfl rfl ?_
    refine wpo_nil ?_
    refine wpf_cond rfl (fun h133 => ?_) (fun h133 => ?_)
    ·
     have h134 := nt_t h133
     refine wpf_seq_region ?_
     refine wpo_assign (v := .bool false) rfl rfl ?_
     refine wpo_nil ?_
     refine wpf_ret ?_
     refine blk_r ?_
     refine thn_r ?_
     refine thn_r ?_
     refine blk_r ?_
     refine thn_r ?_
     refine ⟨.bool false, res1 rfl rfl, ?_, hb132⟩
     simp [queueOk, h109, h112, h121, all_false_of (p := numQ) hx123 h134]
    ·
     have h135 := nt_f h133
     refine wpf_skip ?_
     refine blk_n ?_
     refine thn_n ?_
     refine wpf_region ?_
     refine wpo_add (c := (k : Int) + 1) e117 rfl (by omega) (by omega) (by omega) rfl ?_
     refine wpo_move (v := .int .i64 ((k : Int) + 1)) rfl rfl ?_
     refine wpo_nil ?_
     refine thn_n ?_
     exact ⟨m.t.queue.length - (k + 1), by omega, (k + 1), rfl, (by omega), (take_all_succ (p := numQ) ha hx123 h135), rfl, e118, e119, hb132⟩
   ·
    have h136 := of_decide_eq_false h120
    refine wpf_exit ?_
    refine thn_e ?_
    refine thn_e ?_
    refine blk_e ?_
    refine thn_n ?_
    refine wpf_seq_region ?_
    refine wpo_assign (v := .bool true) rfl rfl ?_
    refine wpo_nil ?_
    refine wpf_ret ?_
    refine ⟨.bool true, res1 rfl rfl, ?_, hb115⟩
    simp [queueOk, h109, h112, h136, all_of_take (p := numQ) ha (by omega)]; omega
theorem slotsOk_c (m : MTh) (w : World) (hs : SlAt w m.sa 5 (m.t.slots.map Rt.cells)) (hq : SlAt w m.qa 1 (m.t.queue.map icell)) (hsl : m.t.slots.length ≤ 9223372036854775806) (hql : m.t.queue.length ≤ 9223372036854775806) : CallsR Try.prog 73 #[.agg #[.int .i64 m.t.kind, .int .i64 m.t.lab.s, .int .i64 m.t.lab.v, .int .i64 m.t.ve, .int .i64 m.t.num, .slice m.sa m.t.slots.length m.sc, .slice m.qa m.t.queue.length m.qc, .int .i64 m.t.to]] w (fun v w' => v = .bool (slotsOk m.t) ∧ w.grownBy w' none) := by
 refine calls_of_wpf (n := 32) Try.func73 rfl Try.ntmps73 rfl ?_
 have hb0 := World.grownBy.refl w none
 refine wpf_seq_region ?_
 refine wpo_box (v := .agg #[.int .i64 m.t.kind, .int .i64 m.t.lab.s, .int .i64 m.t.lab.v, .int .i64 m.t.ve, .int .i64 m.t.num, .slice m.sa m.t.slots.length m.sc, .slice m.qa m.t.queue.length m.qc, .int .i64 m.t.to]) (cs := #[.int .i64 m.t.kind, .int .i64 m.t.lab.s, .int .i64 m.t.lab.v, .int .i64 m.t.ve, .int .i64 m.t.num, .slice m.sa m.t.slots.length m.sc, .slice m.qa m.t.queue.length m.qc, .int .i64 m.t.to]) rfl rfl rfl ?_
 intro B101 w102 hN103
 have hlB101 := hN_ge hN103 hb0
 have hb104 := low0 hb0 hN103.grw
 refine wpo_assign (v := .bool false) rfl rfl ?_
 refine wpo_nil ?_
 refine wpf_seq ?_
 refine wpf_seq_region_mid (fun f' w' => (f' 1 = .pointer (some ⟨B101, 0, none⟩) ∧ f' 2 = .bool false ∧ f' 12 = .bool ((!(decide (m.t.kind = 2))) && (!(decide (m.t.kind = 3))))) ∧ w102 = w') ?_ ?_
 ·
  refine wpo_fieldAddr (o' := 0) fo_45_0 rfl rfl rfl ?_
  refine wpo_load1 (v := .int .i64 m.t.kind) ot_3 rfl (hN103.blk.cell rfl) rfl ?_
  refine wpo_neq (q := !(decide (m.t.kind = 2))) rfl rfl rfl rfl ?_
  refine wpo_move (v := .bool (!(decide (m.t.kind = 2)))) rfl rfl ?_
  rcases bcases (!(decide (m.t.kind = 2))) with h105 | h105
  ·
   have h106 := nt_t h105
   have h107 := of_decide_eq_false h106
   refine wpo_run rfl rfl rfl h105 ?_
   refine wpo_fieldAddr (o' := 0) fo_45_0 rfl rfl rfl ?_
   refine wpo_run rfl rfl rfl h105 ?_
   refine wpo_load1 (v := .int .i64 m.t.kind) ot_3 rfl (hN103.blk.cell rfl) rfl ?_
   refine wpo_run rfl rfl rfl h105 ?_
   refine wpo_neq (q := !(decide (m.t.kind = 3))) rfl rfl rfl rfl ?_
   refine wpo_pickt (v := .bool (!(decide (m.t.kind = 3)))) rfl h105 rfl rfl ?_
   exact wpo_nil ⟨⟨rfl, rfl, (congrArg Value.bool (by first | (simp only [h105, h106, b0, b1, b2, b3, b4, b5, b6, b7, b8, b9]; done) | simp [h105, h106]))⟩, rfl⟩
  ·
   have h108 := nt_f h105
   have h109 := of_decide_eq_true h108
   iterate 3 refine wpo_pass rfl rfl rfl h105 rfl ?_
   refine wpo_pickf (v := .bool false) rfl h105 rfl rfl ?_
   exact wpo_nil ⟨⟨rfl, rfl, (congrArg Value.bool (by first | (simp only [h105, h108, b0, b1, b2, b3, b4, b5, b6, b7, b8, b9]; done) | simp [h105, h108]))⟩, rfl⟩
 ·
  rintro f110 w111 ⟨⟨e112, e113, e114⟩, rfl⟩
  refine wpf_cond e114 (fun h115 => ?_) (fun h115 => ?_)
  ·
   have h116 := and_l h115
   have h117 := nt_t h116
   have h118 := of_decide_eq_false h117
   have h119 := and_r h115
   have h120 := nt_t h119
   have h121 := of_decide_eq_false h120
   refine wpf_seq_region ?_
   refine wpo_fieldAddr (o' := 5) fo_45_4 e112 rfl rfl ?_
   refine wpo_load1 (v := .slice m.sa m.t.slots.length m.sc) ot_27 rfl (hN103.blk.cell rfl) rfl ?_
   refine wpo_len (by kernel_rfl) rfl rfl ?_
   refine wpo_eql (q := decide ((m.t.slots.length : Int) = 0)) rfl rfl rfl rfl ?_
   refine wpo_assign (v := .bool (decide ((m.t.slots.length : Int) = 0))) rfl rfl ?_
   refine wpo_nil ?_
   refine wpf_ret ?_
   refine thn_r ?_
   refine ⟨.bool (decide ((m.t.slots.length : Int) = 0)), res1 rfl rfl, ?_, hb104⟩
   rw [slotsOk_n h115]
  ·
   refine wpf_skip ?_
   refine thn_n ?_
   refine wpf_seq ?_
   refine wpf_seq_region ?_
   refine wpo_fieldAddr (o' := 5) fo_45_4 e112 rfl rfl ?_
   refine wpo_load1 (v := .slice m.sa m.t.slots.length m.sc) ot_27 rfl (hN103.blk.cell rfl) rfl ?_
   refine wpo_len (by kernel_rfl) rfl rfl ?_
   refine wpo_neq (q := !(decide ((m.t.slots.length : Int) = 4))) rfl rfl rfl rfl ?_
   refine wpo_nil ?_
   refine wpf_cond rfl (fun h122 => ?_) (fun h122 => ?_)
   ·
    have h123 := nt_t h122
    have h124 := of_decide_eq_false h123
    refine wpf_seq_region ?_
    refine wpo_assign (v := .bool false) rfl rfl ?_
    refine wpo_nil ?_
    refine wpf_ret ?_
    refine thn_r ?_
    refine ⟨.bool false, res1 rfl rfl, ?_, hb104⟩
    rw [slotsOk_y h115]
    rw [decide_eq_false (by omega)]; rfl
   ·
    have h125 := nt_f h122
    have h126 := of_decide_eq_true h125
    refine wpf_skip ?_
    refine thn_n ?_
    refine wpf_seq ?_
    refine wpf_seq_region ?_
    refine wpo_fieldAddr (o' := 5) fo_45_4 e112 rfl rfl ?_
    refine wpo_load1 (v := .slice m.sa m.t.slots.length m.sc) ot_27 rfl (hN103.blk.cell rfl) rfl ?_
    obtain ⟨b127, q128, ha129, hr130⟩ := SlAt.all wide_rt (by omega) (SlAt.low hs hb104) (by omega)
    refine wpo_s2a at_96 rfl ha129 (by omega) rfl ?_
    refine wpo_loadn (vs := m.t.slots.flatMap Rt.cells) rt_96 rfl (by rw [rows_len wide_rt]; omega) hr130 rfl ?_
    refine wpo_move (v := .int .i64 0) rfl rfl ?_
    refine wpo_nil ?_
    refine wpf_block ?_
    refine wpf_loopN (fun mm f' w' => ∃ (k : Nat), mm = m.t.slots.length - k ∧ k ≤ m.t.slots.length ∧ ((m.t.slots.take k).all rightOk) = true ∧ f' 25 = .int .i64 (k : Int) ∧ f' 24 = .agg (m.t.slots.flatMap Rt.cells).toArray ∧ w.grownBy w' none) (m.t.slots.length - 0) ⟨0, rfl, (Nat.zero_le _), rfl, rfl, rfl, hb104⟩ ?_
    rintro mm f131 w132 ⟨k, hm134, hk, ha, e135, e136, hb133⟩
    refine wpf_seq_region ?_
    refine wpo_lss (q := decide ((k : Int) < 4)) e135 rfl rfl rfl ?_
    refine wpo_nil ?_
    refine wpf_seq ?_
    refine wpf_cond rfl (fun h137 => ?_) (fun h137 => ?_)
    ·
     have h138 := of_decide_eq_true h137
     refine wpf_skip ?_
     refine thn_n ?_
     refine wpf_seq ?_
     refine wpf_block ?_
     refine wpf_seq_region ?_
     obtain ⟨x139, hx140⟩ := get_lt (l := m.t.slots) (i := k) (by omega)
     refine wpo_indexArr (g := Rt.cells) (z := x139) at_96 rt_29 wide_rt e136 e135 (by omega) (by omega) hx140 rfl ?_
     refine wpo_alloc (cs := #[.int .i64 0, .int .i64 0, .bool false, .bool false, .bool false]) zt_29 rfl rfl ?_
     intro B141 w142 hN143
     have hlB141 := hN_ge hN143 hb133
     have hb144 := low0 hb133 hN143.grw
     refine wpo_storen (vs := [.int .i64 x139.th, .int .i64 x139.ve, .bool x139.rd, .bool x139.wr, .bool x139.wk]) (cs' := #[.int .i64 x139.th, .int .i64 x139.ve, .bool x139.rd, .bool x139.wr, .bool x139.wk]) rt_29 rfl rfl rfl (by simp [Value.oneCell']) hN143.blk (Nat.le_of_ble_eq_true rfl) rfl ?_
     intro w145 hS146
     have hb147 := low1 hb144 hS146.grw (by omega)
     refine wpo_nil ?_
     refine wpf_seq_region ?_
     refine wpo_loadn (vs := [.int .i64 x139.th, .int .i64 x139.ve, .bool x139.rd, .bool x139.wr, .bool x139.wk]) rt_29 rfl rfl (hS146.blk.rangeL 0 5 rfl) rfl ?_
     refine wpo_call (vs := [.agg #[.int .i64 x139.th, .int .i64 x139.ve, .bool x139.rd, .bool x139.wr, .bool x139.wk]]) gf_20 (args_cons rfl args_nil) rfl (RightOk_c x139 _) ?_
     rintro _ w148 ⟨rfl, hg149⟩
     have hb150 := low0 hb147 hg149
     refine wpo_not (b' := !rightOk x139) rfl rfl rfl ?_
     refine wpo_nil ?_
     refine wpf_cond rfl (fun h151 => ?_) (fun h151 => ?_)
     ·
      have h152 := nt_t h151
      refine wpf_seq_region ?_
      refine wpo_assign (v := .bool false) rfl rfl ?_
      refine wpo_nil ?_
      refine wpf_ret ?_
      refine blk_r ?_
      refine thn_r ?_
      refine thn_r ?_
      refine blk_r ?_
      refine thn_r ?_
      refine ⟨.bool false, res1 rfl rfl, ?_, hb150⟩
      rw [slotsOk_y h115]
      simp [all_false_of (p := rightOk) hx140 h152]
     ·
      have h153 := nt_f h151
      refine wpf_skip ?_
      refine blk_n ?_
      refine thn_n ?_
      refine wpf_region ?_
      refine wpo_add (c := (k : Int) + 1) e135 rfl (by omega) (by omega) (by omega) rfl ?_
      refine wpo_move (v := .int .i64 ((k : Int) + 1)) rfl rfl ?_
      refine wpo_nil ?_
      refine thn_n ?_
      exact ⟨m.t.slots.length - (k + 1), by omega, (k + 1), rfl, (by omega), (take_all_succ (p := rightOk) ha hx140 h153), rfl, e136, hb150⟩
    ·
     have h154 := of_decide_eq_false h137
     refine wpf_exit ?_
     refine thn_e ?_
     refine thn_e ?_
     refine blk_e ?_
     refine thn_n ?_
     refine wpf_seq_region ?_
     refine wpo_assign (v := .bool true) rfl rfl ?_
     refine wpo_nil ?_
     refine wpf_ret ?_
     refine ⟨.bool true, res1 rfl rfl, ?_, hb133⟩
     rw [slotsOk_y h115]
     rw [all_of_take (p := rightOk) ha (by omega), decide_eq_true (by omega)]; rfl
theorem ThingOk_c (m : MTh) (w : World) (hs : SlAt w m.sa 5 (m.t.slots.map Rt.cells)) (hq : SlAt w m.qa 1 (m.t.queue.map icell)) (hsl : m.t.slots.length ≤ 9223372036854775806) (hql : m.t.queue.length ≤ 9223372036854775806) : CallsR Try.prog 26 #[.agg #[.int .i64 m.t.kind, .int .i64 m.t.lab.s, .int .i64 m.t.lab.v, .int .i64 m.t.ve, .int .i64 m.t.num, .slice m.sa m.t.slots.length m.sc, .slice m.qa m.t.queue.length m.qc, .int .i64 m.t.to]] w (fun v w' => v = .bool (thingOk m.t) ∧ w.grownBy w' none) := by
 refine calls_of_wpf (n := 31) Try.func26 rfl Try.ntmps26 rfl ?_
 have hb0 := World.grownBy.refl w none
 refine wpf_seq_region ?_
 refine wpo_box (v := .agg #[.int .i64 m.t.kind, .int .i64 m.t.lab.s, .int .i64 m.t.lab.v, .int .i64 m.t.ve, .int .i64 m.t.num, .slice m.sa m.t.slots.length m.sc, .slice m.qa m.t.queue.length m.qc, .int .i64 m.t.to]) (cs := #[.int .i64 m.t.kind, .int .i64 m.t.lab.s, .int .i64 m.t.lab.v, .int .i64 m.t.ve, .int .i64 m.t.num, .slice m.sa m.t.slots.length m.sc, .slice m.qa m.t.queue.length m.qc, .int .i64 m.t.to]) rfl rfl rfl ?_
 intro B101 w102 hN103
 have hlB101 := hN_ge hN103 hb0
 have hb104 := low0 hb0 hN103.grw
 refine wpo_assign (v := .bool false) rfl rfl ?_
 refine wpo_nil ?_
 refine wpf_seq_region_mid (fun f' w' => (f' 2 = .bool ((((((inR m.t.kind 1 5 && labelOk m.t.lab) && versOk m.t) && numOk m.t) && slotsOk m.t) && queueOk m.t) && targetOk m.t)) ∧ w102.grownBy w' none) ?_ ?_
 ·
  refine wpo_fieldAddr (o' := 0) fo_45_0 rfl rfl rfl ?_
  refine wpo_load1 (v := .int .i64 m.t.kind) ot_3 rfl (hN103.blk.cell rfl) rfl ?_
  refine wpo_call (vs := [.int .i64 m.t.kind, .int .i64 1, .int .i64 5]) gf_69 (args_cons rfl (args_cons rfl (args_cons rfl args_nil))) rfl (inRange_c m.t.kind 1 5 _) ?_
  rintro _ w135 ⟨rfl, hg136⟩
  have hb137 := low0 hb104 hg136
  refine wpo_move (v := .bool (inR m.t.kind 1 5)) rfl rfl ?_
  rcases bcases (inR m.t.kind 1 5) with h138 | h138
  ·
   refine wpo_run rfl rfl rfl h138 ?_
   refine wpo_fieldAddr (o' := 1) fo_45_1 rfl rfl rfl ?_
   refine wpo_run rfl rfl rfl h138 ?_
   have k139 := (hN103.blk.grown0 hg136)
   refine wpo_loadn (vs := [.int .i64 m.t.lab.s, .int .i64 m.t.lab.v]) rt_40 rfl rfl (k139.rangeL 1 2 rfl) rfl ?_
   refine wpo_run rfl rfl rfl h138 ?_
   refine wpo_call (vs := [.agg #[.int .i64 m.t.lab.s, .int .i64 m.t.lab.v]]) gf_70 (args_cons rfl args_nil) rfl (LabelOk_c m.t.lab _) ?_
   rintro _ w140 ⟨rfl, hg141⟩
   have hb142 := low0 hb137 hg141
   refine wpo_pickt (v := .bool (labelOk m.t.lab)) rfl h138 rfl rfl ?_
   refine wpo_move (v := .bool (labelOk m.t.lab)) rfl rfl ?_
   rcases bcases (labelOk m.t.lab) with h143 | h143
   ·
    refine wpo_run rfl rfl rfl h143 ?_
    have k144 := (k139.grown0 hg141)
    refine wpo_loadn (vs := [.int .i64 m.t.kind, .int .i64 m.t.lab.s, .int .i64 m.t.lab.v, .int .i64 m.t.ve, .int .i64 m.t.num, .slice m.sa m.t.slots.length m.sc, .slice m.qa m.t.queue.length m.qc, .int .i64 m.t.to]) rt_45 rfl rfl (k144.rangeL 0 8 rfl) rfl ?_
    refine wpo_run rfl rfl rfl h143 ?_
    refine wpo_call (vs := [.agg #[.int .i64 m.t.kind, .int .i64 m.t.lab.s, .int .i64 m.t.lab.v, .int .i64 m.t.ve, .int .i64 m.t.num, .slice m.sa m.t.slots.length m.sc, .slice m.qa m.t.queue.length m.qc, .int .i64 m.t.to]]) gf_71 (args_cons rfl args_nil) rfl (versOk_c m _) ?_
    rintro _ w145 ⟨rfl, hg146⟩
    have hb147 := low0 hb142 hg146
    refine wpo_pickt (v := .bool (versOk m.t)) rfl h143 rfl rfl ?_
    refine wpo_move (v := .bool (versOk m.t)) rfl rfl ?_
    rcases bcases (versOk m.t) with h148 | h148
    ·
     refine wpo_run rfl rfl rfl h148 ?_
     have k149 := (k144.grown0 hg146)
     refine wpo_loadn (vs := [.int .i64 m.t.kind, .int .i64 m.t.lab.s, .int .i64 m.t.lab.v, .int .i64 m.t.ve, .int .i64 m.t.num, .slice m.sa m.t.slots.length m.sc, .slice m.qa m.t.queue.length m.qc, .int .i64 m.t.to]) rt_45 rfl rfl (k149.rangeL 0 8 rfl) rfl ?_
     refine wpo_run rfl rfl rfl h148 ?_
     refine wpo_call (vs := [.agg #[.int .i64 m.t.kind, .int .i64 m.t.lab.s, .int .i64 m.t.lab.v, .int .i64 m.t.ve, .int .i64 m.t.num, .slice m.sa m.t.slots.length m.sc, .slice m.qa m.t.queue.length m.qc, .int .i64 m.t.to]]) gf_72 (args_cons rfl args_nil) rfl (numOk_c m _) ?_
     rintro _ w150 ⟨rfl, hg151⟩
     have hb152 := low0 hb147 hg151
     refine wpo_pickt (v := .bool (numOk m.t)) rfl h148 rfl rfl ?_
     refine wpo_move (v := .bool (numOk m.t)) rfl rfl ?_
     rcases bcases (numOk m.t) with h153 | h153
     ·
      refine wpo_run rfl rfl rfl h153 ?_
      have k154 := (k149.grown0 hg151)
      refine wpo_loadn (vs := [.int .i64 m.t.kind, .int .i64 m.t.lab.s, .int .i64 m.t.lab.v, .int .i64 m.t.ve, .int .i64 m.t.num, .slice m.sa m.t.slots.length m.sc, .slice m.qa m.t.queue.length m.qc, .int .i64 m.t.to]) rt_45 rfl rfl (k154.rangeL 0 8 rfl) rfl ?_
      refine wpo_run rfl rfl rfl h153 ?_
      refine wpo_call (vs := [.agg #[.int .i64 m.t.kind, .int .i64 m.t.lab.s, .int .i64 m.t.lab.v, .int .i64 m.t.ve, .int .i64 m.t.num, .slice m.sa m.t.slots.length m.sc, .slice m.qa m.t.queue.length m.qc, .int .i64 m.t.to]]) gf_73 (args_cons rfl args_nil) rfl (slotsOk_c m _ (SlAt.low hs hb152) (SlAt.low hq hb152) (by first | omega | exact Nat.le_of_ble_eq_true rfl | (simp only [List.length_nil, List.length_cons, List.length_append, List.length_replicate]; omega)) (by first | omega | exact Nat.le_of_ble_eq_true rfl | (simp only [List.length_nil, List.length_cons, List.length_append, List.length_replicate]; omega))) ?_
      rintro _ w155 ⟨rfl, hg156⟩
      have hb157 := low0 hb152 hg156
      refine wpo_pickt (v := .bool (slotsOk m.t)) rfl h153 rfl rfl ?_
      refine wpo_move (v := .bool (slotsOk m.t)) rfl rfl ?_
      rcases bcases (slotsOk m.t) with h158 | h158
      ·
       refine wpo_run rfl rfl rfl h158 ?_
       have k159 := (k154.grown0 hg156)
       refine wpo_loadn (vs := [.int .i64 m.t.kind, .int .i64 m.t.lab.s, .int .i64 m.t.lab.v, .int .i64 m.t.ve, .int .i64 m.t.num, .slice m.sa m.t.slots.length m.sc, .slice m.qa m.t.queue.length m.qc, .int .i64 m.t.to]) rt_45 rfl rfl (k159.rangeL 0 8 rfl) rfl ?_
       refine wpo_run rfl rfl rfl h158 ?_
       refine wpo_call (vs := [.agg #[.int .i64 m.t.kind, .int .i64 m.t.lab.s, .int .i64 m.t.lab.v, .int .i64 m.t.ve, .int .i64 m.t.num, .slice m.sa m.t.slots.length m.sc, .slice m.qa m.t.queue.length m.qc, .int .i64 m.t.to]]) gf_74 (args_cons rfl args_nil) rfl (queueOk_c m _ (SlAt.low hs hb157) (SlAt.low hq hb157) (by first | omega | exact Nat.le_of_ble_eq_true rfl | (simp only [List.length_nil, List.length_cons, List.length_append, List.length_replicate]; omega)) (by first | omega | exact Nat.le_of_ble_eq_true rfl | (simp only [List.length_nil, List.length_cons, List.length_append, List.length_replicate]; omega))) ?_
       rintro _ w160 ⟨rfl, hg161⟩
       have hb162 := low0 hb157 hg161
       refine wpo_pickt (v := .bool (queueOk m.t)) rfl h158 rfl rfl ?_
       refine wpo_move (v := .bool (queueOk m.t)) rfl rfl ?_
       rcases bcases (queueOk m.t) with h163 | h163
       ·
        refine wpo_run rfl rfl rfl h163 ?_
        have k164 := (k159.grown0 hg161)
        refine wpo_loadn (vs := [.int .i64 m.t.kind, .int .i64 m.t.lab.s, .int .i64 m.t.lab.v, .int .i64 m.t.ve, .int .i64 m.t.num, .slice m.sa m.t.slots.length m.sc, .slice m.qa m.t.queue.length m.qc, .int .i64 m.t.to]) rt_45 rfl rfl (k164.rangeL 0 8 rfl) rfl ?_
        refine wpo_run rfl rfl rfl h163 ?_
        refine wpo_call (vs := [.agg #[.int .i64 m.t.kind, .int .i64 m.t.lab.s, .int .i64 m.t.lab.v, .int .i64 m.t.ve, .int .i64 m.t.num, .slice m.sa m.t.slots.length m.sc, .slice m.qa m.t.queue.length m.qc, .int .i64 m.t.to]]) gf_75 (args_cons rfl args_nil) rfl (targetOk_c m _) ?_
        rintro _ w165 ⟨rfl, hg166⟩
        have hb167 := low0 hb162 hg166
        refine wpo_pickt (v := .bool (targetOk m.t)) rfl h163 rfl rfl ?_
        refine wpo_assign (v := .bool (targetOk m.t)) rfl rfl ?_
        exact wpo_nil ⟨(congrArg Value.bool (by first | (simp only [h138, h143, h148, h153, h158, h163, b0, b1, b2, b3, b4, b5, b6, b7, b8, b9]; done) | simp [h138, h143, h148, h153, h158, h163])), (grown_trans (grown_trans (grown_trans (grown_trans (grown_trans (grown_trans hg136 hg141) hg146) hg151) hg156) hg161) hg166)⟩
       ·
        refine wpo_pass rfl rfl rfl h163 rfl ?_
        refine wpo_pass rfl rfl rfl h163 rfl ?_
        refine wpo_pickf (v := .bool false) rfl h163 rfl rfl ?_
        refine wpo_assign (v := .bool false) rfl rfl ?_
        exact wpo_nil ⟨(congrArg Value.bool (by first | (simp only [h138, h143, h148, h153, h158, h163, b0, b1, b2, b3, b4, b5, b6, b7, b8, b9]; done) | simp [h138, h143, h148, h153, h158, h163])), (grown_trans (grown_trans (grown_trans (grown_trans (grown_trans hg136 hg141) hg146) hg151) hg156) hg161)⟩
      ·
       refine wpo_pass rfl rfl rfl h158 rfl ?_
       refine wpo_pass rfl rfl rfl h158 rfl ?_
       refine wpo_pickf (v := .bool false) rfl h158 rfl rfl ?_
       refine wpo_move (v := .bool false) rfl rfl ?_
       refine wpo_pass rfl rfl rfl rfl rfl ?_
       refine wpo_pass rfl rfl rfl rfl rfl ?_
       refine wpo_pickf (v := .bool false) rfl rfl rfl rfl ?_
       refine wpo_assign (v := .bool false) rfl rfl ?_
       exact wpo_nil ⟨(congrArg Value.bool (by first | (simp only [h138, h143, h148, h153, h158, b0, b1, b2, b3, b4, b5, b6, b7, b8, b9]; done) | simp [h138, h143, h148, h153, h158])), (grown_trans (grown_trans (grown_trans (grown_trans hg136 hg141) hg146) hg151) hg156)⟩
     ·
      refine wpo_pass rfl rfl rfl h153 rfl ?_
      refine wpo_pass rfl rfl rfl h153 rfl ?_
      refine wpo_pickf (v := .bool false) rfl h153 rfl rfl ?_
      refine wpo_move (v := .bool false) rfl rfl ?_
      refine wpo_pass rfl rfl rfl rfl rfl ?_
      refine wpo_pass rfl rfl rfl rfl rfl ?_
      refine wpo_pickf (v := .bool false) rfl rfl rfl rfl ?_
      refine wpo_move (v := .bool false) rfl rfl ?_
      refine wpo_pass rfl rfl rfl rfl rfl ?_
      refine wpo_pass rfl rfl rfl rfl rfl ?_
      refine wpo_pickf (v := .bool false) rfl rfl rfl rfl ?_
      refine wpo_assign (v := .bool false) rfl rfl ?_
      exact wpo_nil ⟨(congrArg Value.bool (by first | (simp only [h138, h143, h148, h153, b0, b1, b2, b3, b4, b5, b6, b7, b8, b9]; done) | simp [h138, h143, h148, h153])), (grown_trans (grown_trans (grown_trans hg136 hg141) hg146) hg151)⟩
    ·
     refine wpo_pass rfl rfl rfl h148 rfl ?_
     refine wpo_pass rfl rfl rfl h148 rfl ?_
     refine wpo_pickf (v := .bool false) rfl h148 rfl rfl ?_
     refine wpo_move (v := .bool false) rfl rfl ?_
     refine wpo_pass rfl rfl rfl rfl rfl ?_
     refine wpo_pass rfl rfl rfl rfl rfl ?_
     refine wpo_pickf (v := .bool false) rfl rfl rfl rfl ?_
     refine wpo_move (v := .bool false) rfl rfl ?_
     refine wpo_pass rfl rfl rfl rfl rfl ?_
     refine wpo_pass rfl rfl rfl rfl rfl ?_
     refine wpo_pickf (v := .bool false) rfl rfl rfl rfl ?_
     refine wpo_move (v := .bool false) rfl rfl ?_
     refine wpo_pass rfl rfl rfl rfl rfl ?_
     refine wpo_pass rfl rfl rfl rfl rfl ?_
     refine wpo_pickf (v := .bool false) rfl rfl rfl rfl ?_
     refine wpo_assign (v := .bool false) rfl rfl ?_
     exact wpo_nil ⟨(congrArg Value.bool (by first | (simp only [h138, h143, h148, b0, b1, b2, b3, b4, b5, b6, b7, b8, b9]; done) | simp [h138, h143, h148])), (grown_trans (grown_trans hg136 hg141) hg146)⟩
   ·
    refine wpo_pass rfl rfl rfl h143 rfl ?_
    refine wpo_pass rfl rfl rfl h143 rfl ?_
    refine wpo_pickf (v := .bool false) rfl h143 rfl rfl ?_
    refine wpo_move (v := .bool false) rfl rfl ?_
    refine wpo_pass rfl rfl rfl rfl rfl ?_
    refine wpo_pass rfl rfl rfl rfl rfl ?_
    refine wpo_pickf (v := .bool false) rfl rfl rfl rfl ?_
    refine wpo_move (v := .bool false) rfl rfl ?_
    refine wpo_pass rfl rfl rfl rfl rfl ?_
    refine wpo_pass rfl rfl rfl rfl rfl ?_
    refine wpo_pickf (v := .bool false) rfl rfl rfl rfl ?_
    refine wpo_move (v := .bool false) rfl rfl ?_
    refine wpo_pass rfl rfl rfl rfl rfl ?_
    refine wpo_pass rfl rfl rfl rfl rfl ?_
    refine wpo_pickf (v := .bool false) rfl rfl rfl rfl ?_
    refine wpo_move (v := .bool false) rfl rfl ?_
    refine wpo_pass rfl rfl rfl rfl rfl ?_
    refine wpo_pass rfl rfl rfl rfl rfl ?_
    refine wpo_pickf (v := .bool false) rfl rfl rfl rfl ?_
    refine wpo_assign (v := .bool false) rfl rfl ?_
    exact wpo_nil ⟨(congrArg Value.bool (by first | (simp only [h138, h143, b0, b1, b2, b3, b4, b5, b6, b7, b8, b9]; done) | simp [h138, h143])), (grown_trans hg136 hg141)⟩
  ·
   iterate 3 refine wpo_pass rfl rfl rfl h138 rfl ?_
   refine wpo_pickf (v := .bool false) rfl h138 rfl rfl ?_
   refine wpo_move (v := .bool false) rfl rfl ?_
   refine wpo_pass rfl rfl rfl rfl rfl ?_
   refine wpo_pass rfl rfl rfl rfl rfl ?_
   refine wpo_pickf (v := .bool false) rfl rfl rfl rfl ?_
   refine wpo_move (v := .bool false) rfl rfl ?_
   refine wpo_pass rfl rfl rfl rfl rfl ?_
   refine wpo_pass rfl rfl rfl rfl rfl ?_
   refine wpo_pickf (v := .bool false) rfl rfl rfl rfl ?_
   refine wpo_move (v := .bool false) rfl rfl ?_
   refine wpo_pass rfl rfl rfl rfl rfl ?_
   refine wpo_pass rfl rfl rfl rfl rfl ?_
   refine wpo_pickf (v := .bool false) rfl rfl rfl rfl ?_
   refine wpo_move (v := .bool false) rfl rfl ?_
   refine wpo_pass rfl rfl rfl rfl rfl ?_
   refine wpo_pass rfl rfl rfl rfl rfl ?_
   refine wpo_pickf (v := .bool false) rfl rfl rfl rfl ?_
   refine wpo_move (v := .bool false) rfl rfl ?_
   refine wpo_pass rfl rfl rfl rfl rfl ?_
   refine wpo_pass rfl rfl rfl rfl rfl ?_
   refine wpo_pickf (v := .bool false) rfl rfl rfl rfl ?_
   refine wpo_assign (v := .bool false) rfl rfl ?_
   exact wpo_nil ⟨(congrArg Value.bool (by first | (simp only [h138, b0, b1, b2, b3, b4, b5, b6, b7, b8, b9]; done) | simp [h138])), hg136⟩
 ·
  rintro f168 w169 ⟨e170, hg171⟩
  have hb172 := low0 hb104 hg171
  refine wpf_ret ?_
  refine ⟨.bool ((((((inR m.t.kind 1 5 && labelOk m.t.lab) && versOk m.t) && numOk m.t) && slotsOk m.t) && queueOk m.t) && targetOk m.t), res1 rfl e170, ?_, hb172⟩
  rfl
theorem l3Slots_c (n : Int) (w : World) : CallsR Try.prog 66 #[.int .i64 n] w (fun v w' => v = .bool (decide (n = 2) || decide (n = 3)) ∧ w.grownBy w' none) := by
 refine calls_of_wpf (n := 9) Try.func66 rfl Try.ntmps66 rfl ?_
 have hb0 := World.grownBy.refl w none
 refine wpf_seq_region ?_
 refine wpo_assign (v := .bool false) rfl rfl ?_
 refine wpo_nil ?_
 refine wpf_seq_region_mid (fun f' w' => (f' 2 = .bool ((decide (n = 2)) || (decide (n = 3)))) ∧ w = w') ?_ ?_
 ·
  refine wpo_move (v := .int .i64 n) rfl rfl ?_
  refine wpo_eql (q := decide (n = 2)) rfl rfl rfl rfl ?_
  refine wpo_move (v := .bool (decide (n = 2))) rfl rfl ?_
  rcases bcases (decide (n = 2)) with h101 | h101
  ·
   have h102 := of_decide_eq_true h101
   refine wpo_pass rfl rfl rfl h101 rfl ?_
   refine wpo_pass rfl rfl rfl h101 rfl ?_
   refine wpo_pickt (v := .bool true) rfl h101 rfl rfl ?_
   refine wpo_assign (v := .bool true) rfl rfl ?_
   exact wpo_nil ⟨(congrArg Value.bool (by first | (simp only [h101, b0, b1, b2, b3, b4, b5, b6, b7, b8, b9]; done) | simp [h101])), rfl⟩
  ·
   have h103 := of_decide_eq_false h101
   refine wpo_run rfl rfl rfl h101 ?_
   refine wpo_move (v := .int .i64 n) rfl rfl ?_
   refine wpo_run rfl rfl rfl h101 ?_
   refine wpo_eql (q := decide (n = 3)) rfl rfl rfl rfl ?_
   refine wpo_pickf (v := .bool (decide (n = 3))) rfl h101 rfl rfl ?_
   refine wpo_assign (v := .bool (decide (n = 3))) rfl rfl ?_
   exact wpo_nil ⟨(congrArg Value.bool (by first | (simp only [h101, b0, b1, b2, b3, b4, b5, b6, b7, b8, b9]; done) | simp [h101])), rfl⟩
 ·
  rintro f104 w105 ⟨e106, rfl⟩
  refine wpf_ret ?_
  refine ⟨.bool ((decide (n = 2)) || (decide (n = 3))), res1 rfl e106, ?_, hb0⟩
  rfl
theorem sThingOk_c (m : MTh) (w : World) (hs : SlAt w m.sa 5 (m.t.slots.map Rt.cells)) (hq : SlAt w m.qa 1 (m.t.queue.map icell)) (hsl : m.t.slots.length ≤ 9223372036854775806) (hql : m.t.queue.length ≤ 9223372036854775806) : CallsR Try.prog 67 #[.agg #[.int .i64 m.t.kind, .int .i64 m.t.lab.s, .int .i64 m.t.lab.v, .int .i64 m.t.ve, .int .i64 m.t.num, .slice m.sa m.t.slots.length m.sc, .slice m.qa m.t.queue.length m.qc, .int .i64 m.t.to]] w (fun v w' => v = .bool (thingOk m.t) ∧ w.grownBy w' none) := by
 refine calls_of_wpf (n := 144) Try.func67 rfl Try.ntmps67 rfl ?_
 have hb0 := World.grownBy.refl w none
 refine wpf_seq_region ?_
 refine wpo_box (v := .agg #[.int .i64 m.t.kind, .int .i64 m.t.lab.s, .int .i64 m.t.lab.v, .int .i64 m.t.ve, .int .i64 m.t.num, .slice m.sa m.t.slots.length m.sc, .slice m.qa m.t.queue.length m.qc, .int .i64 m.t.to]) (cs := #[.int .i64 m.t.kind, .int .i64 m.t.lab.s, .int .i64 m.t.lab.v, .int .i64 m.t.ve, .int .i64 m.t.num, .slice m.sa m.t.slots.length m.sc, .slice m.qa m.t.queue.length m.qc, .int .i64 m.t.to]) rfl rfl rfl ?_
 intro B101 w102 hN103
 have hlB101 := hN_ge hN103 hb0
 have hb104 := low0 hb0 hN103.grw
 refine wpo_assign (v := .bool false) rfl rfl ?_
 refine wpo_nil ?_
 refine wpf_seq ?_
 refine wpf_seq_region_mid (fun f' w' => (f' 1 = .pointer (some ⟨B101, 0, none⟩) ∧ f' 2 = .bool false ∧ f' 27 = .bool ((((!inR m.t.kind 1 5) || (!labelOk m.t.lab)) || (!inR m.t.ve 0 5)) || (decide (3 < (m.t.queue.length : Int))))) ∧ w102.grownBy w' none) ?_ ?_
 ·
  refine wpo_fieldAddr (o' := 0) fo_45_0 rfl rfl rfl ?_
  refine wpo_load1 (v := .int .i64 m.t.kind) ot_3 rfl (hN103.blk.cell rfl) rfl ?_
  refine wpo_call (vs := [.int .i64 m.t.kind, .int .i64 1, .int .i64 5]) gf_85 (args_cons rfl (args_cons rfl (args_cons rfl args_nil))) rfl (l6In_c m.t.kind 1 5 _) ?_
  rintro _ w120 ⟨rfl, hg121⟩
  have hb122 := low0 hb104 hg121
  refine wpo_not (b' := !inR m.t.kind 1 5) rfl rfl rfl ?_
  refine wpo_move (v := .bool (!inR m.t.kind 1 5)) rfl rfl ?_
  rcases bcases (!inR m.t.kind 1 5) with h123 | h123
  ·
   have h124 := nt_t h123
   iterate 4 refine wpo_pass rfl rfl rfl h123 rfl ?_
   refine wpo_pickt (v := .bool true) rfl h123 rfl rfl ?_
   refine wpo_move (v := .bool true) rfl rfl ?_
   iterate 4 refine wpo_pass rfl rfl rfl rfl rfl ?_
   refine wpo_pickt (v := .bool true) rfl rfl rfl rfl ?_
   refine wpo_move (v := .bool true) rfl rfl ?_
   iterate 4 refine wpo_pass rfl rfl rfl rfl rfl ?_
   refine wpo_pickt (v := .bool true) rfl rfl rfl rfl ?_
   exact wpo_nil ⟨⟨rfl, rfl, (congrArg Value.bool (by first | (simp only [h123, h124, b0, b1, b2, b3, b4, b5, b6, b7, b8, b9]; done) | simp [h123, h124]))⟩, hg121⟩
  ·
   have h125 := nt_f h123
   refine wpo_run rfl rfl rfl h123 ?_
   refine wpo_fieldAddr (o' := 1) fo_45_1 rfl rfl rfl ?_
   refine wpo_run rfl rfl rfl h123 ?_
   have k126 := (hN103.blk.grown0 hg121)
   refine wpo_loadn (vs := [.int .i64 m.t.lab.s, .int .i64 m.t.lab.v]) rt_40 rfl rfl (k126.rangeL 1 2 rfl) rfl ?_
   refine wpo_run rfl rfl rfl h123 ?_
   refine wpo_call (vs := [.agg #[.int .i64 m.t.lab.s, .int .i64 m.t.lab.v]]) gf_35 (args_cons rfl args_nil) rfl (sLabelOk_c m.t.lab _) ?_
   rintro _ w127 ⟨rfl, hg128⟩
   have hb129 := low0 hb122 hg128
   refine wpo_run rfl rfl rfl h123 ?_
   refine wpo_not (b' := !labelOk m.t.lab) rfl rfl rfl ?_
   refine wpo_pickf (v := .bool (!labelOk m.t.lab)) rfl h123 rfl rfl ?_
   refine wpo_move (v := .bool (!labelOk m.t.lab)) rfl rfl ?_
   rcases bcases (!labelOk m.t.lab) with h130 | h130
   ·
    have h131 := nt_t h130
    iterate 4 refine wpo_pass rfl rfl rfl h130 rfl ?_
    refine wpo_pickt (v := .bool true) rfl h130 rfl rfl ?_
    refine wpo_move (v := .bool true) rfl rfl ?_
    iterate 4 refine wpo_pass rfl rfl rfl rfl rfl ?_
    refine wpo_pickt (v := .bool true) rfl rfl rfl rfl ?_
    exact wpo_nil ⟨⟨rfl, rfl, (congrArg Value.bool (by first | (simp only [h123, h125, h130, h131, b0, b1, b2, b3, b4, b5, b6, b7, b8, b9]; done) | simp [h123, h125, h130, h131]))⟩, (grown_trans hg121 hg128)⟩
   ·
    have h132 := nt_f h130
    refine wpo_run rfl rfl rfl h130 ?_
    refine wpo_fieldAddr (o' := 3) fo_45_2 rfl rfl rfl ?_
    refine wpo_run rfl rfl rfl h130 ?_
    have k133 := (k126.grown0 hg128)
    refine wpo_load1 (v := .int .i64 m.t.ve) ot_3 rfl (k133.cell rfl) rfl ?_
    refine wpo_run rfl rfl rfl h130 ?_
    refine wpo_call (vs := [.int .i64 m.t.ve, .int .i64 0, .int .i64 5]) gf_85 (args_cons rfl (args_cons rfl (args_cons rfl args_nil))) rfl (l6In_c m.t.ve 0 5 _) ?_
    rintro _ w134 ⟨rfl, hg135⟩
    have hb136 := low0 hb129 hg135
    refine wpo_run rfl rfl rfl h130 ?_
    refine wpo_not (b' := !inR m.t.ve 0 5) rfl rfl rfl ?_
    refine wpo_pickf (v := .bool (!inR m.t.ve 0 5)) rfl h130 rfl rfl ?_
    refine wpo_move (v := .bool (!inR m.t.ve 0 5)) rfl rfl ?_
    rcases bcases (!inR m.t.ve 0 5) with h137 | h137
    ·
     have h138 := nt_t h137
     iterate 4 refine wpo_pass rfl rfl rfl h137 rfl ?_
     refine wpo_pickt (v := .bool true) rfl h137 rfl rfl ?_
     exact wpo_nil ⟨⟨rfl, rfl, (congrArg Value.bool (by first | (simp only [h123, h125, h130, h132, h137, h138, b0, b1, b2, b3, b4, b5, b6, b7, b8, b9]; done) | simp [h123, h125, h130, h132, h137, h138]))⟩, (grown_trans (grown_trans hg121 hg128) hg135)⟩
    ·
     have h139 := nt_f h137
     refine wpo_run rfl rfl rfl h137 ?_
     refine wpo_fieldAddr (o' := 6) fo_45_5 rfl rfl rfl ?_
     refine wpo_run rfl rfl rfl h137 ?_
     have k140 := (k133.grown0 hg135)
     refine wpo_load1 (v := .slice m.qa m.t.queue.length m.qc) ot_43 rfl (k140.cell rfl) rfl ?_
     refine wpo_run rfl rfl rfl h137 ?_
     refine wpo_len (by kernel_rfl) rfl rfl ?_
     refine wpo_run rfl rfl rfl h137 ?_
     refine wpo_gtr (q := decide (3 < (m.t.queue.length : Int))) rfl rfl rfl rfl ?_
     refine wpo_pickf (v := .bool (decide (3 < (m.t.queue.length : Int)))) rfl h137 rfl rfl ?_
     exact wpo_nil ⟨⟨rfl, rfl, (congrArg Value.bool (by first | (simp only [h123, h125, h130, h132, h137, h139, b0, b1, b2, b3, b4, b5, b6, b7, b8, b9]; done) | simp [h123, h125, h130, h132, h137, h139]))⟩, (grown_trans (grown_trans hg121 hg128) hg135)⟩
 ·
  rintro f141 w142 ⟨⟨e143, e144, e145⟩, hg146⟩
  have hb147 := low0 hb104 hg146
  refine wpf_cond e145 (fun h148 => ?_) (fun h148 => ?_)
  ·
   refine wpf_seq_region ?_
   refine wpo_assign (v := .bool false) rfl rfl ?_
   refine wpo_nil ?_
   refine wpf_ret ?_
   refine thn_r ?_
   refine ⟨.bool false, res1 rfl rfl, ?_, hb147⟩
   exact congrArg Value.bool (th_a h148)
  ·
   have h149 := or_l h148
   have h150 := or_l h149
   have h151 := or_l h150
   have h152 := nt_f h151
   have h153 := or_r h150
   have h154 := nt_f h153
   have h155 := or_r h149
   have h156 := nt_f h155
   have h157 := or_r h148
   have h158 := of_decide_eq_false h157
   refine wpf_skip ?_
   refine thn_n ?_
   refine wpf_seq_region ?_
   refine wpo_assign (v := .int .i64 0) rfl rfl ?_
   refine wpo_nil ?_
   refine wpf_seq ?_
   refine wpf_seq_region ?_
   refine wpo_fieldAddr (o' := 0) fo_45_0 e143 rfl rfl ?_
   have k159 := (hN103.blk.grown0 hg146)
   refine wpo_load1 (v := .int .i64 m.t.kind) ot_3 rfl (k159.cell rfl) rfl ?_
   refine wpo_eql (q := decide (m.t.kind = 3)) rfl rfl rfl rfl ?_
   refine wpo_nil ?_
   refine wpf_mid (fun f' w' => (f' 1 = .pointer (some ⟨B101, 0, none⟩) ∧ f' 2 = .bool false ∧ f' 3 = .int .i64 (if m.t.kind = 3 then (-4) else 0)) ∧ w142 = w') ?_ ?_
   ·
    refine wpf_cond rfl (fun h160 => ?_) (fun h160 => ?_)
    ·
     have h161 := of_decide_eq_true h160
     refine wpf_region ?_
     refine wpo_assign (v := .int .i64 (-4)) rfl rfl ?_
     refine wpo_nil ?_
     refine thn_n ?_
     exact ⟨⟨e143, e144, (congrArg (Value.int .i64) (if_pos (of_decide_eq_true h160)).symm)⟩, rfl⟩
    ·
     have h162 := of_decide_eq_false h160
     refine wpf_skip ?_
     refine thn_n ?_
     exact ⟨⟨e143, e144, (congrArg (Value.int .i64) (if_neg (of_decide_eq_false h160)).symm)⟩, rfl⟩
   ·
    rintro f163 _ ⟨⟨e165, e166, e167⟩, rfl⟩
    refine thn_n ?_
    refine wpf_seq ?_
    refine wpf_seq_region_mid (fun f' w' => (f' 1 = .pointer (some ⟨B101, 0, none⟩) ∧ f' 2 = .bool false ∧ f' 65 = .bool (((!inR m.t.num (if m.t.kind = 3 then (-4) else 0) 99) || ((!(decide (m.t.num = 0))) && ((decide (m.t.kind = 2)) || (decide (m.t.kind = 4))))) || ((!(decide (m.t.ve = 0))) && ((decide (m.t.kind = 3)) || (decide (m.t.kind = 5)))))) ∧ w142.grownBy w' none) ?_ ?_
    ·
     refine wpo_fieldAddr (o' := 4) fo_45_3 e165 rfl rfl ?_
     refine wpo_load1 (v := .int .i64 m.t.num) ot_3 rfl (k159.cell rfl) rfl ?_
     refine wpo_move (v := .int .i64 (if m.t.kind = 3 then (-4) else 0)) e167 rfl ?_
     refine wpo_call (vs := [.int .i64 m.t.num, .int .i64 (if m.t.kind = 3 then (-4) else 0), .int .i64 99]) gf_85 (args_cons rfl (args_cons rfl (args_cons rfl args_nil))) rfl (l6In_c m.t.num (if m.t.kind = 3 then (-4) else 0) 99 _) ?_
     rintro _ w175 ⟨rfl, hg176⟩
     have hb177 := low0 hb147 hg176
     refine wpo_not (b' := !inR m.t.num (if m.t.kind = 3 then (-4) else 0) 99) rfl rfl rfl ?_
     refine wpo_move (v := .bool (!inR m.t.num (if m.t.kind = 3 then (-4) else 0) 99)) rfl rfl ?_
     rcases bcases (!inR m.t.num (if m.t.kind = 3 then (-4) else 0) 99) with h178 | h178
     ·
      have h179 := nt_t h178
      iterate 4 refine wpo_pass rfl rfl rfl h178 rfl ?_
      iterate 8 refine wpo_passu rfl rfl rfl rfl ?_
      refine wpo_pass rfl rfl rfl h178 rfl ?_
      refine wpo_pickt (v := .bool true) rfl h178 rfl rfl ?_
      refine wpo_move (v := .bool true) rfl rfl ?_
      iterate 4 refine wpo_pass rfl rfl rfl rfl rfl ?_
      iterate 8 refine wpo_passu rfl rfl rfl rfl ?_
      refine wpo_pass rfl rfl rfl rfl rfl ?_
      refine wpo_pickt (v := .bool true) rfl rfl rfl rfl ?_
      exact wpo_nil ⟨⟨e165, e166, (congrArg Value.bool (by first | (simp only [h148, h149, h150, h151, h152, h153, h154, h155, h156, h157, h178, h179, b0, b1, b2, b3, b4, b5, b6, b7, b8, b9]; done) | simp [h148, h149, h150, h151, h152, h153, h154, h155, h156, h157, h178, h179]))⟩, hg176⟩
     ·
      have h180 := nt_f h178
      refine wpo_run rfl rfl rfl h178 ?_
      refine wpo_fieldAddr (o' := 4) fo_45_3 e165 rfl rfl ?_
      refine wpo_run rfl rfl rfl h178 ?_
      have k181 := (k159.grown0 hg176)
      refine wpo_load1 (v := .int .i64 m.t.num) ot_3 rfl (k181.cell rfl) rfl ?_
      refine wpo_run rfl rfl rfl h178 ?_
      refine wpo_neq (q := !(decide (m.t.num = 0))) rfl rfl rfl rfl ?_
      refine wpo_run rfl rfl rfl h178 ?_
      refine wpo_move (v := .bool (!(decide (m.t.num = 0)))) rfl rfl ?_
      rcases bcases (!(decide (m.t.num = 0))) with h182 | h182
      ·
       have h183 := nt_t h182
       have h184 := of_decide_eq_false h183
       refine wpo_run rfl rfl rfl h182 ?_
       refine wpo_fieldAddr (o' := 0) fo_45_0 e165 rfl rfl ?_
       refine wpo_run rfl rfl rfl h182 ?_
       refine wpo_load1 (v := .int .i64 m.t.kind) ot_3 rfl (k181.cell rfl) rfl ?_
       refine wpo_run rfl rfl rfl h182 ?_
       refine wpo_eql (q := decide (m.t.kind = 2)) rfl rfl rfl rfl ?_
       refine wpo_run rfl rfl rfl h182 ?_
       refine wpo_move (v := .bool (decide (m.t.kind = 2))) rfl rfl ?_
       rcases bcases (decide (m.t.kind = 2)) with h185 | h185
       ·
        have h186 := of_decide_eq_true h185
        iterate 3 refine wpo_pass rfl rfl rfl h185 rfl ?_
        refine wpo_run rfl rfl rfl h182 ?_
        refine wpo_pickt (v := .bool true) rfl h185 rfl rfl ?_
        refine wpo_run rfl rfl rfl h178 ?_
        refine wpo_pickt (v := .bool true) rfl h182 rfl rfl ?_
        refine wpo_pickf (v := .bool true) rfl h178 rfl rfl ?_
        refine wpo_move (v := .bool true) rfl rfl ?_
        iterate 4 refine wpo_pass rfl rfl rfl rfl rfl ?_
        iterate 8 refine wpo_passu rfl rfl rfl rfl ?_
        refine wpo_pass rfl rfl rfl rfl rfl ?_
        refine wpo_pickt (v := .bool true) rfl rfl rfl rfl ?_
        exact wpo_nil ⟨⟨e165, e166, (congrArg Value.bool (by first | (simp only [h148, h149, h150, h151, h152, h153, h154, h155, h156, h157, h178, h180, h182, h183, h185, b0, b1, b2, b3, b4, b5, b6, b7, b8, b9]; done) | simp [h148, h149, h150, h151, h152, h153, h154, h155, h156, h157, h178, h180, h182, h183, h185]))⟩, hg176⟩
       ·
        have h187 := of_decide_eq_false h185
        refine wpo_run rfl rfl rfl h185 ?_
        refine wpo_fieldAddr (o' := 0) fo_45_0 e165 rfl rfl ?_
        refine wpo_run rfl rfl rfl h185 ?_
        refine wpo_load1 (v := .int .i64 m.t.kind) ot_3 rfl (k181.cell rfl) rfl ?_
        refine wpo_run rfl rfl rfl h185 ?_
        refine wpo_eql (q := decide (m.t.kind = 4)) rfl rfl rfl rfl ?_
        refine wpo_run rfl rfl rfl h182 ?_
        refine wpo_pickf (v := .bool (decide (m.t.kind = 4))) rfl h185 rfl rfl ?_
        refine wpo_run rfl rfl rfl h178 ?_
        refine wpo_pickt (v := .bool (decide (m.t.kind = 4))) rfl h182 rfl rfl ?_
        refine wpo_pickf (v := .bool (decide (m.t.kind = 4))) rfl h178 rfl rfl ?_
        refine wpo_move (v := .bool (decide (m.t.kind = 4))) rfl rfl ?_
        rcases bcases (decide (m.t.kind = 4)) with h188 | h188
        ·
         have h189 := of_decide_eq_true h188
         iterate 4 refine wpo_pass rfl rfl rfl h188 rfl ?_
         iterate 8 refine wpo_passu rfl rfl rfl rfl ?_
         refine wpo_pass rfl rfl rfl h188 rfl ?_
         refine wpo_pickt (v := .bool true) rfl h188 rfl rfl ?_
         exact wpo_nil ⟨⟨e165, e166, (congrArg Value.bool (by first | (simp only [h148, h149, h150, h151, h152, h153, h154, h155, h156, h157, h178, h180, h182, h183, h185, h188, b0, b1, b2, b3, b4, b5, b6, b7, b8, b9]; done) | simp [h148, h149, h150, h151, h152, h153, h154, h155, h156, h157, h178, h180, h182, h183, h185, h188]))⟩, hg176⟩
        ·
         have h190 := of_decide_eq_false h188
         refine wpo_run rfl rfl rfl h188 ?_
         refine wpo_fieldAddr (o' := 3) fo_45_2 e165 rfl rfl ?_
         refine wpo_run rfl rfl rfl h188 ?_
         refine wpo_load1 (v := .int .i64 m.t.ve) ot_3 rfl (k181.cell rfl) rfl ?_
         refine wpo_run rfl rfl rfl h188 ?_
         refine wpo_neq (q := !(decide (m.t.ve = 0))) rfl rfl rfl rfl ?_
         refine wpo_run rfl rfl rfl h188 ?_
         refine wpo_move (v := .bool (!(decide (m.t.ve = 0)))) rfl rfl ?_
         rcases bcases (!(decide (m.t.ve = 0))) with h191 | h191
         ·
          have h192 := nt_t h191
          have h193 := of_decide_eq_false h192
          refine wpo_run rfl rfl rfl h191 ?_
          refine wpo_fieldAddr (o' := 0) fo_45_0 e165 rfl rfl ?_
          refine wpo_run rfl rfl rfl h191 ?_
          refine wpo_load1 (v := .int .i64 m.t.kind) ot_3 rfl (k181.cell rfl) rfl ?_
          refine wpo_run rfl rfl rfl h191 ?_
          refine wpo_eql (q := decide (m.t.kind = 3)) rfl rfl rfl rfl ?_
          refine wpo_run rfl rfl rfl h191 ?_
          refine wpo_move (v := .bool (decide (m.t.kind = 3))) rfl rfl ?_
          rcases bcases (decide (m.t.kind = 3)) with h194 | h194
          ·
           have h195 := of_decide_eq_true h194
           iterate 3 refine wpo_pass rfl rfl rfl h194 rfl ?_
           refine wpo_run rfl rfl rfl h191 ?_
           refine wpo_pickt (v := .bool true) rfl h194 rfl rfl ?_
           refine wpo_run rfl rfl rfl h188 ?_
           refine wpo_pickt (v := .bool true) rfl h191 rfl rfl ?_
           refine wpo_pickf (v := .bool true) rfl h188 rfl rfl ?_
           exact wpo_nil ⟨⟨e165, e166, (congrArg Value.bool (by first | (simp only [h148, h149, h150, h151, h152, h153, h154, h155, h156, h157, h178, h180, h182, h183, h185, h188, h191, h192, h194, b0, b1, b2, b3, b4, b5, b6, b7, b8, b9]; done) | simp [h148, h149, h150, h151, h152, h153, h154, h155, h156, h157, h178, h180, h182, h183, h185, h188, h191, h192, h194]))⟩, hg176⟩
          ·
           have h196 := of_decide_eq_false h194
           refine wpo_run rfl rfl rfl h194 ?_
           refine wpo_fieldAddr (o' := 0) fo_45_0 e165 rfl rfl ?_
           refine wpo_run rfl rfl rfl h194 ?_
           refine wpo_load1 (v := .int .i64 m.t.kind) ot_3 rfl (k181.cell rfl) rfl ?_
           refine wpo_run rfl rfl rfl h194 ?_
           refine wpo_eql (q := decide (m.t.kind = 5)) rfl rfl rfl rfl ?_
           refine wpo_run rfl rfl rfl h191 ?_
           refine wpo_pickf (v := .bool (decide (m.t.kind = 5))) rfl h194 rfl rfl ?_
           refine wpo_run rfl rfl rfl h188 ?_
           refine wpo_pickt (v := .bool (decide (m.t.kind = 5))) rfl h191 rfl rfl ?_
           refine wpo_pickf (v := .bool (decide (m.t.kind = 5))) rfl h188 rfl rfl ?_
           exact wpo_nil ⟨⟨e165, e166, (congrArg Value.bool (by first | (simp only [h148, h149, h150, h151, h152, h153, h154, h155, h156, h157, h178, h180, h182, h183, h185, h188, h191, h192, h194, b0, b1, b2, b3, b4, b5, b6, b7, b8, b9]; done) | simp [h148, h149, h150, h151, h152, h153, h154, h155, h156, h157, h178, h180, h182, h183, h185, h188, h191, h192, h194]))⟩, hg176⟩
         ·
          have h197 := nt_f h191
          have h198 := of_decide_eq_true h197
          iterate 4 refine wpo_pass rfl rfl rfl h191 rfl ?_
          iterate 3 refine wpo_passu rfl rfl rfl rfl ?_
          refine wpo_pass rfl rfl rfl h191 rfl ?_
          refine wpo_run rfl rfl rfl h188 ?_
          refine wpo_pickf (v := .bool false) rfl h191 rfl rfl ?_
          refine wpo_pickf (v := .bool false) rfl h188 rfl rfl ?_
          exact wpo_nil ⟨⟨e165, e166, (congrArg Value.bool (by first | (simp only [h148, h149, h150, h151, h152, h153, h154, h155, h156, h157, h178, h180, h182, h183, h185, h188, h191, h197, b0, b1, b2, b3, b4, b5, b6, b7, b8, b9]; done) | simp [h148, h149, h150, h151, h152, h153, h154, h155, h156, h157, h178, h180, h182, h183, h185, h188, h191, h197]))⟩, hg176⟩
      ·
       have h199 := nt_f h182
       have h200 := of_decide_eq_true h199
       iterate 4 refine wpo_pass rfl rfl rfl h182 rfl ?_
       iterate 3 refine wpo_passu rfl rfl rfl rfl ?_
       refine wpo_pass rfl rfl rfl h182 rfl ?_
       refine wpo_run rfl rfl rfl h178 ?_
       refine wpo_pickf (v := .bool false) rfl h182 rfl rfl ?_
       refine wpo_pickf (v := .bool false) rfl h178 rfl rfl ?_
       refine wpo_move (v := .bool false) rfl rfl ?_
       refine wpo_run rfl rfl rfl rfl ?_
       refine wpo_fieldAddr (o' := 3) fo_45_2 e165 rfl rfl ?_
       refine wpo_run rfl rfl rfl rfl ?_
       refine wpo_load1 (v := .int .i64 m.t.ve) ot_3 rfl (k181.cell rfl) rfl ?_
       refine wpo_run rfl rfl rfl rfl ?_
       refine wpo_neq (q := !(decide (m.t.ve = 0))) rfl rfl rfl rfl ?_
       refine wpo_run rfl rfl rfl rfl ?_
       refine wpo_move (v := .bool (!(decide (m.t.ve = 0)))) rfl rfl ?_
       rcases bcases (!(decide (m.t.ve = 0))) with h201 | h201
       ·
        have h202 := nt_t h201
        have h203 := of_decide_eq_false h202
        refine wpo_run rfl rfl rfl h201 ?_
        refine wpo_fieldAddr (o' := 0) fo_45_0 e165 rfl rfl ?_
        refine wpo_run rfl rfl rfl h201 ?_
        refine wpo_load1 (v := .int .i64 m.t.kind) ot_3 rfl (k181.cell rfl) rfl ?_
        refine wpo_run rfl rfl rfl h201 ?_
        refine wpo_eql (q := decide (m.t.kind = 3)) rfl rfl rfl rfl ?_
        refine wpo_run rfl rfl rfl h201 ?_
        refine wpo_move (v := .bool (decide (m.t.kind = 3))) rfl rfl ?_
        rcases bcases (decide (m.t.kind = 3)) with h204 | h204
        ·
         have h205 := of_decide_eq_true h204
         iterate 3 refine wpo_pass rfl rfl rfl h204 rfl ?_
         refine wpo_run rfl rfl rfl h201 ?_
         refine wpo_pickt (v := .bool true) rfl h204 rfl rfl ?_
         refine wpo_run rfl rfl rfl rfl ?_
         refine wpo_pickt (v := .bool true) rfl h201 rfl rfl ?_
         refine wpo_pickf (v := .bool true) rfl rfl rfl rfl ?_
         exact wpo_nil ⟨⟨e165, e166, (congrArg Value.bool (by first | (simp only [h148, h149, h150, h151, h152, h153, h154, h155, h156, h157, h178, h180, h182, h199, h201, h202, h204, b0, b1, b2, b3, b4, b5, b6, b7, b8, b9]; done) | simp [h148, h149, h150, h151, h152, h153, h154, h155, h156, h157, h178, h180, h182, h199, h201, h202, h204]))⟩, hg176⟩
        ·
         have h206 := of_decide_eq_false h204
         refine wpo_run rfl rfl rfl h204 ?_
         refine wpo_fieldAddr (o' := 0) fo_45_0 e165 rfl rfl ?_
         refine wpo_run rfl rfl rfl h204 ?_
         refine wpo_load1 (v := .int .i64 m.t.kind) ot_3 rfl (k181.cell rfl) rfl ?_
         refine wpo_run rfl rfl rfl h204 ?_
         refine wpo_eql (q := decide (m.t.kind = 5)) rfl rfl rfl rfl ?_
         refine wpo_run rfl rfl rfl h201 ?_
         refine wpo_pickf (v := .bool (decide (m.t.kind = 5))) rfl h204 rfl rfl ?_
         refine wpo_run rfl rfl rfl rfl ?_
         refine wpo_pickt (v := .bool (decide (m.t.kind = 5))) rfl h201 rfl rfl ?_
         refine wpo_pickf (v := .bool (decide (m.t.kind = 5))) rfl rfl rfl rfl ?_
         exact wpo_nil ⟨⟨e165, e166, (congrArg Value.bool (by first | (simp only [h148, h149, h150, h151, h152, h153, h154, h155, h156, h157, h178, h180, h182, h199, h201, h202, h204, b0, b1, b2, b3, b4, b5, b6, b7, b8, b9]; done) | simp [h148, h149, h150, h151, h152, h153, h154, h155, h156, h157, h178, h180, h182, h199, h201, h202, h204]))⟩, hg176⟩
       ·
        have h207 := nt_f h201
        have h208 := of_decide_eq_true h207
        iterate 4 refine wpo_pass rfl rfl rfl h201 rfl ?_
        iterate 3 refine wpo_passu rfl rfl rfl rfl ?_
        refine wpo_pass rfl rfl rfl h201 rfl ?_
        refine wpo_run rfl rfl rfl rfl ?_
        refine wpo_pickf (v := .bool false) rfl h201 rfl rfl ?_
        refine wpo_pickf (v := .bool false) rfl rfl rfl rfl ?_
        exact wpo_nil ⟨⟨e165, e166, (congrArg Value.bool (by first | (simp only [h148, h149, h150, h151, h152, h153, h154, h155, h156, h157, h178, h180, h182, h199, h201, h207, b0, b1, b2, b3, b4, b5, b6, b7, b8, b9]; done) | simp [h148, h149, h150, h151, h152, h153, h154, h155, h156, h157, h178, h180, h182, h199, h201, h207]))⟩, hg176⟩
    ·
     rintro f209 w210 ⟨⟨e211, e212, e213⟩, hg214⟩
     have hb215 := low0 hb147 hg214
     refine wpf_cond e213 (fun h216 => ?_) (fun h216 => ?_)
     ·
      refine wpf_seq_region ?_
      refine wpo_assign (v := .bool false) rfl rfl ?_
      refine wpo_nil ?_
      refine wpf_ret ?_
      refine thn_r ?_
      refine ⟨.bool false, res1 rfl rfl, ?_, hb215⟩
      exact congrArg Value.bool (th_b h216)
     ·
      have h217 := or_l h216
      have h218 := or_l h217
      have h219 := nt_f h218
      have h220 := or_r h217
      have h221 := or_r h216
      refine wpf_skip ?_
      refine thn_n ?_
      refine wpf_seq ?_
      refine wpf_seq_region ?_
      refine wpo_assign (v := .int .i64 0) rfl rfl ?_
      refine wpo_nil ?_
      refine wpf_block ?_
      have k222 := (k159.grown0 hg214)
      refine wpf_loopN (fun mm f' w' => ∃ (k : Nat), mm = m.t.queue.length - k ∧ k ≤ m.t.queue.length ∧ ((m.t.queue.take k).all numQ) = true ∧ f' 4 = .int .i64 (k : Int) ∧ f' 1 = .pointer (some ⟨B101, 0, none⟩) ∧ w.grownBy w' none ∧ Blk w' B101 45 #[.int .i64 m.t.kind, .int .i64 m.t.lab.s, .int .i64 m.t.lab.v, .int .i64 m.t.ve, .int .i64 m.t.num, .slice m.sa m.t.slots.length m.sc, .slice m.qa m.t.queue.length m.qc, .int .i64 m.t.to]) (m.t.queue.length - 0) ⟨0, rfl, (Nat.zero_le _), rfl, rfl, e211, hb215, k222⟩ ?_
      rintro mm f223 w224 ⟨k, hm226, hk, ha, e227, e228, hb225, k229⟩
      refine wpf_seq ?_
      refine wpf_seq_region ?_
      refine wpo_move (v := .int .i64 (k : Int)) e227 rfl ?_
      refine wpo_fieldAddr (o' := 6) fo_45_5 e228 rfl rfl ?_
      refine wpo_load1 (v := .slice m.qa m.t.queue.length m.qc) ot_43 rfl (k229.cell rfl) rfl ?_
      refine wpo_len (by kernel_rfl) rfl rfl ?_
      refine wpo_lss (q := decide ((k : Int) < (m.t.queue.length : Int))) rfl rfl rfl rfl ?_
      refine wpo_nil ?_
      refine wpf_cond rfl (fun h230 => ?_) (fun h230 => ?_)
      ·
       have h231 := of_decide_eq_true h230
       refine wpf_skip ?_
       refine thn_n ?_
       refine wpf_seq ?_
       refine wpf_block ?_
       refine wpf_seq_region ?_
       refine wpo_fieldAddr (o' := 6) fo_45_5 e228 rfl rfl ?_
       refine wpo_load1 (v := .slice m.qa m.t.queue.length m.qc) ot_43 rfl (k229.cell rfl) rfl ?_
       refine wpo_move (v := .int .i64 (k : Int)) e227 rfl ?_
       obtain ⟨x232, hx233⟩ := get_lt (l := m.t.queue) (i := k) (by omega)
       obtain ⟨b234, q235, o236, ha237, ho238, hr239⟩ := SlAt.at hq (map_get hx233)
       refine wpo_indexE es_43 rfl rfl ha237 ho238 (by omega) (by omega) rfl ?_
       refine wpo_load1 (v := .int .i64 x232) ot_3 rfl ((range_low hr239 hb225) 0 _ rfl) rfl ?_
       refine wpo_call (vs := [.int .i64 x232, .int .i64 0, .int .i64 99]) gf_85 (args_cons rfl (args_cons rfl (args_cons rfl args_nil))) rfl (l6In_c x232 0 99 _) ?_
       rintro _ w240 ⟨rfl, hg241⟩
       have hb242 := low0 hb225 hg241
       refine wpo_not (b' := !inR x232 0 99) rfl rfl rfl ?_
       refine wpo_nil ?_
       refine wpf_cond rfl (fun h243 => ?_) (fun h243 => ?_)
       ·
        have h244 := nt_t h243
        refine wpf_seq_region ?_
        refine wpo_assign (v := .bool false) rfl rfl ?_
        refine wpo_nil ?_
        refine wpf_ret ?_
        refine blk_r ?_
        refine thn_r ?_
        refine thn_r ?_
        refine blk_r ?_
        refine thn_r ?_
        refine ⟨.bool false, res1 rfl rfl, ?_, hb242⟩
        exact congrArg Value.bool (th_q hx233 h244)
       ·
        have h245 := nt_f h243
        refine wpf_skip ?_
        refine blk_n ?_
        refine thn_n ?_
        refine wpf_region ?_
        refine wpo_move (v := .int .i64 (k : Int)) e227 rfl ?_
        refine wpo_add (c := (k : Int) + 1) rfl rfl (by omega) (by omega) (by omega) rfl ?_
        refine wpo_assign (v := .int .i64 ((k : Int) + 1)) rfl rfl ?_
        refine wpo_nil ?_
        refine thn_n ?_
        have k246 := (k229.grown0 hg241)
        exact ⟨m.t.queue.length - (k + 1), by omega, (k + 1), rfl, (by omega), (take_all_succ (p := numQ) ha hx233 h245), rfl, e228, hb242, k246⟩
      ·
       have h247 := of_decide_eq_false h230
       refine wpf_exit ?_
       refine thn_e ?_
       refine thn_e ?_
       refine blk_e ?_
       refine thn_n ?_
       refine wpf_seq ?_
       refine wpf_seq_region ?_
       refine wpo_assign (v := .int .i64 0) rfl rfl ?_
       refine wpo_nil ?_
       refine wpf_block ?_
       refine wpf_loopN (fun mm f' w' => ∃ (j : Nat), mm = m.t.slots.length - j ∧ j ≤ m.t.slots.length ∧ ((m.t.slots.take j).all rightOk) = true ∧ f' 5 = .int .i64 (j : Int) ∧ f' 1 = .pointer (some ⟨B101, 0, none⟩) ∧ w.grownBy w' none ∧ Blk w' B101 45 #[.int .i64 m.t.kind, .int .i64 m.t.lab.s, .int .i64 m.t.lab.v, .int .i64 m.t.ve, .int .i64 m.t.num, .slice m.sa m.t.slots.length m.sc, .slice m.qa m.t.queue.length m.qc, .int .i64 m.t.to]) (m.t.slots.length - 0) ⟨0, rfl, (Nat.zero_le _), rfl, rfl, e228, hb225, k229⟩ ?_
       rintro mm f248 w249 ⟨j, hm251, hj, hb, e252, e253, hb250, k254⟩
       refine wpf_seq ?_
       refine wpf_seq_region ?_
       refine wpo_move (v := .int .i64 (j : Int)) e252 rfl ?_
       refine wpo_fieldAddr (o' := 5) fo_45_4 e253 rfl rfl ?_
       refine wpo_load1 (v := .slice m.sa m.t.slots.length m.sc) ot_27 rfl (k254.cell rfl) rfl ?_
       refine wpo_len (by kernel_rfl) rfl rfl ?_
       refine wpo_lss (q := decide ((j : Int) < (m.t.slots.length : Int))) rfl rfl rfl rfl ?_
       refine wpo_nil ?_
       refine wpf_cond rfl (fun h255 => ?_) (fun h255 => ?_)
       ·
        have h256 := of_decide_eq_true h255
        refine wpf_skip ?_
        refine thn_n ?_
        refine wpf_seq ?_
        refine wpf_block ?_
        refine wpf_seq_region ?_
        refine wpo_fieldAddr (o' := 5) fo_45_4 e253 rfl rfl ?_
        refine wpo_load1 (v := .slice m.sa m.t.slots.length m.sc) ot_27 rfl (k254.cell rfl) rfl ?_
        refine wpo_move (v := .int .i64 (j : Int)) e252 rfl ?_
        obtain ⟨x257, hx258⟩ := get_lt (l := m.t.slots) (i := j) (by omega)
        obtain ⟨b259, q260, o261, ha262, ho263, hr264⟩ := SlAt.at hs (map_get hx258)
        refine wpo_indexE es_27 rfl rfl ha262 ho263 (by omega) (by omega) rfl ?_
        refine wpo_loadn (vs := [.int .i64 x257.th, .int .i64 x257.ve, .bool x257.rd, .bool x257.wr, .bool x257.wk]) rt_29 rfl rfl (range_sub (range_low hr264 hb250) 0 5 rfl) rfl ?_
        refine wpo_call (vs := [.agg #[.int .i64 x257.th, .int .i64 x257.ve, .bool x257.rd, .bool x257.wr, .bool x257.wk]]) gf_54 (args_cons rfl args_nil) rfl (sRightOk_c x257 _) ?_
        rintro _ w265 ⟨rfl, hg266⟩
        have hb267 := low0 hb250 hg266
        refine wpo_not (b' := !rightOk x257) rfl rfl rfl ?_
        refine wpo_nil ?_
        refine wpf_cond rfl (fun h268 => ?_) (fun h268 => ?_)
        ·
         have h269 := nt_t h268
         refine wpf_seq_region ?_
         refine wpo_assign (v := .bool false) rfl rfl ?_
         refine wpo_nil ?_
         refine wpf_ret ?_
         refine blk_r ?_
         refine thn_r ?_
         refine thn_r ?_
         refine blk_r ?_
         refine thn_r ?_
         refine ⟨.bool false, res1 rfl rfl, ?_, hb267⟩
         exact congrArg Value.bool (th_r hx258 h269)
        ·
         have h270 := nt_f h268
         refine wpf_skip ?_
         refine blk_n ?_
         refine thn_n ?_
         refine wpf_region ?_
         refine wpo_move (v := .int .i64 (j : Int)) e252 rfl ?_
         refine wpo_add (c := (j : Int) + 1) rfl rfl (by omega) (by omega) (by omega) rfl ?_
         refine wpo_assign (v := .int .i64 ((j : Int) + 1)) rfl rfl ?_
         refine wpo_nil ?_
         refine thn_n ?_
         have k271 := (k254.grown0 hg266)
         exact ⟨m.t.slots.length - (j + 1), by omega, (j + 1), rfl, (by omega), (take_all_succ (p := rightOk) hb hx258 h270), rfl, e253, hb267, k271⟩
       ·
        have h272 := of_decide_eq_false h255
        refine wpf_exit ?_
        refine thn_e ?_
        refine thn_e ?_
        refine blk_e ?_
        refine thn_n ?_
        refine wpf_seq ?_
        refine wpf_seq_region_mid (fun f' w' => (f' 1 = .pointer (some ⟨B101, 0, none⟩) ∧ f' 114 = .bool ((((decide (m.t.kind = 2)) || (decide (m.t.kind = 3))) && (!(decide ((m.t.slots.length : Int) = 4)))) || ((!((decide (m.t.kind = 2)) || (decide (m.t.kind = 3)))) && (!(decide ((m.t.slots.length : Int) = 0)))))) ∧ w249.grownBy w' none) ?_ ?_
        ·
         refine wpo_fieldAddr (o' := 0) fo_45_0 e253 rfl rfl ?_
         refine wpo_load1 (v := .int .i64 m.t.kind) ot_3 rfl (k254.cell rfl) rfl ?_
         refine wpo_call (vs := [.int .i64 m.t.kind]) gf_66 (args_cons rfl args_nil) rfl (l3Slots_c m.t.kind _) ?_
         rintro _ w284 ⟨rfl, hg285⟩
         have hb286 := low0 hb250 hg285
         refine wpo_move (v := .bool ((decide (m.t.kind = 2)) || (decide (m.t.kind = 3)))) rfl rfl ?_
         rcases bcases ((decide (m.t.kind = 2)) || (decide (m.t.kind = 3))) with h287 | h287
         ·
          refine wpo_run rfl rfl rfl h287 ?_
          refine wpo_fieldAddr (o' := 5) fo_45_4 e253 rfl rfl ?_
          refine wpo_run rfl rfl rfl h287 ?_
          have k288 := (k254.grown0 hg285)
          refine wpo_load1 (v := .slice m.sa m.t.slots.length m.sc) ot_27 rfl (k288.cell rfl) rfl ?_
          refine wpo_run rfl rfl rfl h287 ?_
          refine wpo_len (by kernel_rfl) rfl rfl ?_
          refine wpo_run rfl rfl rfl h287 ?_
          refine wpo_neq (q := !(decide ((m.t.slots.length : Int) = 4))) rfl rfl rfl rfl ?_
          refine wpo_pickt (v := .bool (!(decide ((m.t.slots.length : Int) = 4)))) rfl h287 rfl rfl ?_
          refine wpo_move (v := .bool (!(decide ((m.t.slots.length : Int) = 4)))) rfl rfl ?_
          rcases bcases (!(decide ((m.t.slots.length : Int) = 4))) with h289 | h289
          ·
           have h290 := nt_t h289
           have h291 := of_decide_eq_false h290
           iterate 5 refine wpo_pass rfl rfl rfl h289 rfl ?_
           iterate 4 refine wpo_passu rfl rfl rfl rfl ?_
           refine wpo_pass rfl rfl rfl h289 rfl ?_
           refine wpo_pickt (v := .bool true) rfl h289 rfl rfl ?_
           exact wpo_nil ⟨⟨e253, (congrArg Value.bool (by first | (simp only [h148, h149, h150, h151, h152, h153, h154, h155, h156, h157, h216, h217, h218, h219, h220, h221, h230, h255, h287, h289, h290, b0, b1, b2, b3, b4, b5, b6, b7, b8, b9]; done) | simp [h148, h149, h150, h151, h152, h153, h154, h155, h156, h157, h216, h217, h218, h219, h220, h221, h230, h255, h287, h289, h290]))⟩, hg285⟩
          ·
           have h292 := nt_f h289
           have h293 := of_decide_eq_true h292
           refine wpo_run rfl rfl rfl h289 ?_
           refine wpo_fieldAddr (o' := 0) fo_45_0 e253 rfl rfl ?_
           refine wpo_run rfl rfl rfl h289 ?_
           refine wpo_load1 (v := .int .i64 m.t.kind) ot_3 rfl (k288.cell rfl) rfl ?_
           refine wpo_run rfl rfl rfl h289 ?_
           refine wpo_call (vs := [.int .i64 m.t.kind]) gf_66 (args_cons rfl args_nil) rfl (l3Slots_c m.t.kind _) ?_
           rintro _ w294 ⟨rfl, hg295⟩
           have hb296 := low0 hb286 hg295
           refine wpo_run rfl rfl rfl h289 ?_
           refine wpo_not (b' := !((decide (m.t.kind = 2)) || (decide (m.t.kind = 3)))) rfl rfl rfl ?_
           refine wpo_run rfl rfl rfl h289 ?_
           refine wpo_move (v := .bool (!((decide (m.t.kind = 2)) || (decide (m.t.kind = 3))))) rfl rfl ?_
           iterate 4 refine wpo_pass rfl rfl rfl (not_of_t h287) rfl ?_
           refine wpo_run rfl rfl rfl h289 ?_
           refine wpo_pickf (v := .bool false) rfl (not_of_t h287) rfl rfl ?_
           refine wpo_pickf (v := .bool false) rfl h289 rfl rfl ?_
           exact wpo_nil ⟨⟨e253, (congrArg Value.bool (by first | (simp only [h148, h149, h150, h151, h152, h153, h154, h155, h156, h157, h216, h217, h218, h219, h220, h221, h230, h255, h287, h289, h292, b0, b1, b2, b3, b4, b5, b6, b7, b8, b9]; done) | simp [h148, h149, h150, h151, h152, h153, h154, h155, h156, h157, h216, h217, h218, h219, h220, h221, h230, h255, h287, h289, h292]))⟩, (grown_trans hg285 hg295)⟩
         ·
          have h297 := or_l h287
          have h298 := of_decide_eq_false h297
          have h299 := or_r h287
          have h300 := of_decide_eq_false h299
          iterate 4 refine wpo_pass rfl rfl rfl h287 rfl ?_
          refine wpo_pickf (v := .bool false) rfl h287 rfl rfl ?_
          refine wpo_move (v := .bool false) rfl rfl ?_
          refine wpo_run rfl rfl rfl rfl ?_
          refine wpo_fieldAddr (o' := 0) fo_45_0 e253 rfl rfl ?_
          refine wpo_run rfl rfl rfl rfl ?_
          have k301 := (k254.grown0 hg285)
          refine wpo_load1 (v := .int .i64 m.t.kind) ot_3 rfl (k301.cell rfl) rfl ?_
          refine wpo_run rfl rfl rfl rfl ?_
          refine wpo_call (vs := [.int .i64 m.t.kind]) gf_66 (args_cons rfl args_nil) rfl (l3Slots_c m.t.kind _) ?_
          rintro _ w302 ⟨rfl, hg303⟩
          have hb304 := low0 hb286 hg303
          refine wpo_run rfl rfl rfl rfl ?_
          refine wpo_not (b' := !((decide (m.t.kind = 2)) || (decide (m.t.kind = 3)))) rfl rfl rfl ?_
          refine wpo_run rfl rfl rfl rfl ?_
          refine wpo_move (v := .bool (!((decide (m.t.kind = 2)) || (decide (m.t.kind = 3))))) rfl rfl ?_
          refine wpo_run rfl rfl rfl (not_of_f h287) ?_
          refine wpo_fieldAddr (o' := 5) fo_45_4 e253 rfl rfl ?_
          refine wpo_run rfl rfl rfl (not_of_f h287) ?_
          have k305 := (k301.grown0 hg303)
          refine wpo_load1 (v := .slice m.sa m.t.slots.length m.sc) ot_27 rfl (k305.cell rfl) rfl ?_
          refine wpo_run rfl rfl rfl (not_of_f h287) ?_
          refine wpo_len (by kernel_rfl) rfl rfl ?_
          refine wpo_run rfl rfl rfl (not_of_f h287) ?_
          refine wpo_neq (q := !(decide ((m.t.slots.length : Int) = 0))) rfl rfl rfl rfl ?_
          refine wpo_run rfl rfl rfl rfl ?_
          refine wpo_pickt (v := .bool (!(decide ((m.t.slots.length : Int) = 0)))) rfl (not_of_f h287) rfl rfl ?_
          refine wpo_pickf (v := .bool (!(decide ((m.t.slots.length : Int) = 0)))) rfl rfl rfl rfl ?_
          exact wpo_nil ⟨⟨e253, (congrArg Value.bool (by first | (simp only [h148, h149, h150, h151, h152, h153, h154, h155, h156, h157, h216, h217, h218, h219, h220, h221, h230, h255, h287, h297, h299, b0, b1, b2, b3, b4, b5, b6, b7, b8, b9]; done) | simp [h148, h149, h150, h151, h152, h153, h154, h155, h156, h157, h216, h217, h218, h219, h220, h221, h230, h255, h287, h297, h299]))⟩, (grown_trans hg285 hg303)⟩
        ·
         rintro f306 w307 ⟨⟨e308, e309⟩, hg310⟩
         have hb311 := low0 hb250 hg310
         refine wpf_cond e309 (fun h312 => ?_) (fun h312 => ?_)
         ·
          refine wpf_seq_region ?_
          refine wpo_assign (v := .bool false) rfl rfl ?_
          refine wpo_nil ?_
          refine wpf_ret ?_
          refine thn_r ?_
          refine ⟨.bool false, res1 rfl rfl, ?_, hb311⟩
          exact congrArg Value.bool (th_d h312)
         ·
          have h313 := or_l h312
          have h314 := or_r h312
          refine wpf_skip ?_
          refine thn_n ?_
          refine wpf_seq_region_mid (fun f' w' => (f' 2 = .bool (((decide (m.t.kind = 4)) || (decide ((m.t.queue.length : Int) = 0))) && (((decide (m.t.kind = 5)) && inR m.t.to 1 8) || ((!(decide (m.t.kind = 5))) && (decide (m.t.to = 0)))))) ∧ w307.grownBy w' none) ?_ ?_
          ·
           refine wpo_fieldAddr (o' := 0) fo_45_0 e308 rfl rfl ?_
           have k321 := (k254.grown0 hg310)
           refine wpo_load1 (v := .int .i64 m.t.kind) ot_3 rfl (k321.cell rfl) rfl ?_
           refine wpo_eql (q := decide (m.t.kind = 4)) rfl rfl rfl rfl ?_
           refine wpo_move (v := .bool (decide (m.t.kind = 4))) rfl rfl ?_
           rcases bcases (decide (m.t.kind = 4)) with h322 | h322
           ·
            have h323 := of_decide_eq_true h322
            iterate 4 refine wpo_pass rfl rfl rfl h322 rfl ?_
            refine wpo_pickt (v := .bool true) rfl h322 rfl rfl ?_
            refine wpo_move (v := .bool true) rfl rfl ?_
            refine wpo_run rfl rfl rfl rfl ?_
            refine wpo_fieldAddr (o' := 0) fo_45_0 e308 rfl rfl ?_
            refine wpo_run rfl rfl rfl rfl ?_
            refine wpo_load1 (v := .int .i64 m.t.kind) ot_3 rfl (k321.cell rfl) rfl ?_
            refine wpo_run rfl rfl rfl rfl ?_
            refine wpo_eql (q := decide (m.t.kind = 5)) rfl rfl rfl rfl ?_
            refine wpo_run rfl rfl rfl rfl ?_
            refine wpo_move (v := .bool (decide (m.t.kind = 5))) rfl rfl ?_
            rcases bcases (decide (m.t.kind = 5)) with h324 | h324
            ·
             have h325 := of_decide_eq_true h324
             refine wpo_run rfl rfl rfl h324 ?_
             refine wpo_fieldAddr (o' := 7) fo_45_6 e308 rfl rfl ?_
             refine wpo_run rfl rfl rfl h324 ?_
             refine wpo_load1 (v := .int .i64 m.t.to) ot_3 rfl (k321.cell rfl) rfl ?_
             refine wpo_run rfl rfl rfl h324 ?_
             refine wpo_call (vs := [.int .i64 m.t.to, .int .i64 1, .int .i64 8]) gf_85 (args_cons rfl (args_cons rfl (args_cons rfl args_nil))) rfl (l6In_c m.t.to 1 8 _) ?_
             rintro _ w326 ⟨rfl, hg327⟩
             have hb328 := low0 hb311 hg327
             refine wpo_run rfl rfl rfl rfl ?_
             refine wpo_pickt (v := .bool (inR m.t.to 1 8)) rfl h324 rfl rfl ?_
             refine wpo_run rfl rfl rfl rfl ?_
             refine wpo_move (v := .bool (inR m.t.to 1 8)) rfl rfl ?_
             rcases bcases (inR m.t.to 1 8) with h329 | h329
             ·
              iterate 4 refine wpo_pass rfl rfl rfl h329 rfl ?_
              iterate 3 refine wpo_passu rfl rfl rfl rfl ?_
              refine wpo_pass rfl rfl rfl h329 rfl ?_
              refine wpo_run rfl rfl rfl rfl ?_
              refine wpo_pickt (v := .bool true) rfl h329 rfl rfl ?_
              refine wpo_pickt (v := .bool true) rfl rfl rfl rfl ?_
              refine wpo_assign (v := .bool true) rfl rfl ?_
              exact wpo_nil ⟨(congrArg Value.bool (by first | (simp only [h148, h149, h150, h151, h152, h153, h154, h155, h156, h157, h216, h217, h218, h219, h220, h221, h230, h255, h312, h313, h314, h322, h324, h329, b0, b1, b2, b3, b4, b5, b6, b7, b8, b9]; done) | simp [h148, h149, h150, h151, h152, h153, h154, h155, h156, h157, h216, h217, h218, h219, h220, h221, h230, h255, h312, h313, h314, h322, h324, h329])), hg327⟩
             ·
              refine wpo_run rfl rfl rfl h329 ?_
              refine wpo_fieldAddr (o' := 0) fo_45_0 e308 rfl rfl ?_
              refine wpo_run rfl rfl rfl h329 ?_
              have k330 := (k321.grown0 hg327)
              refine wpo_load1 (v := .int .i64 m.t.kind) ot_3 rfl (k330.cell rfl) rfl ?_
              refine wpo_run rfl rfl rfl h329 ?_
              refine wpo_neq (q := !(decide (m.t.kind = 5))) rfl rfl rfl rfl ?_
              refine wpo_run rfl rfl rfl h329 ?_
              refine wpo_move (v := .bool (!(decide (m.t.kind = 5)))) rfl rfl ?_
              iterate 3 refine wpo_pass rfl rfl rfl (not_of_t h324) rfl ?_
              refine wpo_run rfl rfl rfl h329 ?_
              refine wpo_pickf (v := .bool false) rfl (not_of_t h324) rfl rfl ?_
              refine wpo_run rfl rfl rfl rfl ?_
              refine wpo_pickf (v := .bool false) rfl h329 rfl rfl ?_
              refine wpo_pickt (v := .bool false) rfl rfl rfl rfl ?_
              refine wpo_assign (v := .bool false) rfl rfl ?_
              exact wpo_nil ⟨(congrArg Value.bool (by first | (simp only [h148, h149, h150, h151, h152, h153, h154, h155, h156, h157, h216, h217, h218, h219, h220, h221, h230, h255, h312, h313, h314, h322, h324, h329, b0, b1, b2, b3, b4, b5, b6, b7, b8, b9]; done) | simp [h148, h149, h150, h151, h152, h153, h154, h155, h156, h157, h216, h217, h218, h219, h220, h221, h230, h255, h312, h313, h314, h322, h324, h329])), hg327⟩
            ·
             have h331 := of_decide_eq_false h324
             iterate 3 refine wpo_pass rfl rfl rfl h324 rfl ?_
             refine wpo_run rfl rfl rfl rfl ?_
             refine wpo_pickf (v := .bool false) rfl h324 rfl rfl ?_
             refine wpo_run rfl rfl rfl rfl ?_
             refine wpo_move (v := .bool false) rfl rfl ?_
             refine wpo_run rfl rfl rfl rfl ?_
             refine wpo_fieldAddr (o' := 0) fo_45_0 e308 rfl rfl ?_
             refine wpo_run rfl rfl rfl rfl ?_
             refine wpo_load1 (v := .int .i64 m.t.kind) ot_3 rfl (k321.cell rfl) rfl ?_
             refine wpo_run rfl rfl rfl rfl ?_
             refine wpo_neq (q := !(decide (m.t.kind = 5))) rfl rfl rfl rfl ?_
             refine wpo_run rfl rfl rfl rfl ?_
             refine wpo_move (v := .bool (!(decide (m.t.kind = 5)))) rfl rfl ?_
             refine wpo_run rfl rfl rfl (not_of_f h324) ?_
             refine wpo_fieldAddr (o' := 7) fo_45_6 e308 rfl rfl ?_
             refine wpo_run rfl rfl rfl (not_of_f h324) ?_
             refine wpo_load1 (v := .int .i64 m.t.to) ot_3 rfl (k321.cell rfl) rfl ?_
             refine wpo_run rfl rfl rfl (not_of_f h324) ?_
             refine wpo_eql (q := decide (m.t.to = 0)) rfl rfl rfl rfl ?_
             refine wpo_run rfl rfl rfl rfl ?_
             refine wpo_pickt (v := .bool (decide (m.t.to = 0))) rfl (not_of_f h324) rfl rfl ?_
             refine wpo_run rfl rfl rfl rfl ?_
             refine wpo_pickf (v := .bool (decide (m.t.to = 0))) rfl rfl rfl rfl ?_
             refine wpo_pickt (v := .bool (decide (m.t.to = 0))) rfl rfl rfl rfl ?_
             refine wpo_assign (v := .bool (decide (m.t.to = 0))) rfl rfl ?_
             exact wpo_nil ⟨(congrArg Value.bool (by first | (simp only [h148, h149, h150, h151, h152, h153, h154, h155, h156, h157, h216, h217, h218, h219, h220, h221, h230, h255, h312, h313, h314, h322, h324, b0, b1, b2, b3, b4, b5, b6, b7, b8, b9]; done) | simp [h148, h149, h150, h151, h152, h153, h154, h155, h156, h157, h216, h217, h218, h219, h220, h221, h230, h255, h312, h313, h314, h322, h324])), (World.grownBy.refl _ _)⟩
           ·
            have h332 := of_decide_eq_false h322
            refine wpo_run rfl rfl rfl h322 ?_
            refine wpo_fieldAddr (o' := 6) fo_45_5 e308 rfl rfl ?_
            refine wpo_run rfl rfl rfl h322 ?_
            refine wpo_load1 (v := .slice m.qa m.t.queue.length m.qc) ot_43 rfl (k321.cell rfl) rfl ?_
            refine wpo_run rfl rfl rfl h322 ?_
            refine wpo_len (by kernel_rfl) rfl rfl ?_
            refine wpo_run rfl rfl rfl h322 ?_
            refine wpo_eql (q := decide ((m.t.queue.length : Int) = 0)) rfl rfl rfl rfl ?_
            refine wpo_pickf (v := .bool (decide ((m.t.queue.length : Int) = 0))) rfl h322 rfl rfl ?_
            refine wpo_move (v := .bool (decide ((m.t.queue.length : Int) = 0))) rfl rfl ?_
            rcases bcases (decide ((m.t.queue.length : Int) = 0)) with h333 | h333
            ·
             have h334 := of_decide_eq_true h333
             refine wpo_run rfl rfl rfl h333 ?_
             refine wpo_fieldAddr (o' := 0) fo_45_0 e308 rfl rfl ?_
             refine wpo_run rfl rfl rfl h333 ?_
             refine wpo_load1 (v := .int .i64 m.t.kind) ot_3 rfl (k321.cell rfl) rfl ?_
             refine wpo_run rfl rfl rfl h333 ?_
             refine wpo_eql (q := decide (m.t.kind = 5)) rfl rfl rfl rfl ?_
             refine wpo_run rfl rfl rfl h333 ?_
             refine wpo_move (v := .bool (decide (m.t.kind = 5))) rfl rfl ?_
             rcases bcases (decide (m.t.kind = 5)) with h335 | h335
             ·
              have h336 := of_decide_eq_true h335
              refine wpo_run rfl rfl rfl h335 ?_
              refine wpo_fieldAddr (o' := 7) fo_45_6 e308 rfl rfl ?_
              refine wpo_run rfl rfl rfl h335 ?_
              refine wpo_load1 (v := .int .i64 m.t.to) ot_3 rfl (k321.cell rfl) rfl ?_
              refine wpo_run rfl rfl rfl h335 ?_
              refine wpo_call (vs := [.int .i64 m.t.to, .int .i64 1, .int .i64 8]) gf_85 (args_cons rfl (args_cons rfl (args_cons rfl args_nil))) rfl (l6In_c m.t.to 1 8 _) ?_
              rintro _ w337 ⟨rfl, hg338⟩
              have hb339 := low0 hb311 hg338
              refine wpo_run rfl rfl rfl h333 ?_
              refine wpo_pickt (v := .bool (inR m.t.to 1 8)) rfl h335 rfl rfl ?_
              refine wpo_run rfl rfl rfl h333 ?_
              refine wpo_move (v := .bool (inR m.t.to 1 8)) rfl rfl ?_
              rcases bcases (inR m.t.to 1 8) with h340 | h340
              ·
               iterate 4 refine wpo_pass rfl rfl rfl h340 rfl ?_
               iterate 3 refine wpo_passu rfl rfl rfl rfl ?_
               refine wpo_pass rfl rfl rfl h340 rfl ?_
               refine wpo_run rfl rfl rfl h333 ?_
               refine wpo_pickt (v := .bool true) rfl h340 rfl rfl ?_
               refine wpo_pickt (v := .bool true) rfl h333 rfl rfl ?_
               refine wpo_assign (v := .bool true) rfl rfl ?_
               exact wpo_nil ⟨(congrArg Value.bool (by first | (simp only [h148, h149, h150, h151, h152, h153, h154, h155, h156, h157, h216, h217, h218, h219, h220, h221, h230, h255, h312, h313, h314, h322, h333, h335, h340, b0, b1, b2, b3, b4, b5, b6, b7, b8, b9]; done) | simp [h148, h149, h150, h151, h152, h153, h154, h155, h156, h157, h216, h217, h218, h219, h220, h221, h230, h255, h312, h313, h314, h322, h333, h335, h340])), hg338⟩
              ·
               refine wpo_run rfl rfl rfl h340 ?_
               refine wpo_fieldAddr (o' := 0) fo_45_0 e308 rfl rfl ?_
               refine wpo_run rfl rfl rfl h340 ?_
               have k341 := (k321.grown0 hg338)
               refine wpo_load1 (v := .int .i64 m.t.kind) ot_3 rfl (k341.cell rfl) rfl ?_
               refine wpo_run rfl rfl rfl h340 ?_
               refine wpo_neq (q := !(decide (m.t.kind = 5))) rfl rfl rfl rfl ?_
               refine wpo_run rfl rfl rfl h340 ?_
               refine wpo_move (v := .bool (!(decide (m.t.kind = 5)))) rfl rfl ?_
               iterate 3 refine wpo_pass rfl rfl rfl (not_of_t h335) rfl ?_
               refine wpo_run rfl rfl rfl h340 ?_
               refine wpo_pickf (v := .bool false) rfl (not_of_t h335) rfl rfl ?_
               refine wpo_run rfl rfl rfl h333 ?_
               refine wpo_pickf (v := .bool false) rfl h340 rfl rfl ?_
               refine wpo_pickt (v := .bool false) rfl h333 rfl rfl ?_
               refine wpo_assign (v := .bool false) rfl rfl ?_
               exact wpo_nil ⟨(congrArg Value.bool (by first | (simp only [h148, h149, h150, h151, h152, h153, h154, h155, h156, h157, h216, h217, h218, h219, h220, h221, h230, h255, h312, h313, h314, h322, h333, h335, h340, b0, b1, b2, b3, b4, b5, b6, b7, b8, b9]; done) | simp [h148, h149, h150, h151, h152, h153, h154, h155, h156, h157, h216, h217, h218, h219, h220, h221, h230, h255, h312, h313, h314, h322, h333, h335, h340])), hg338⟩
             ·
              have h342 := of_decide_eq_false h335
              iterate 3 refine wpo_pass rfl rfl rfl h335 rfl ?_
              refine wpo_run rfl rfl rfl h333 ?_
              refine wpo_pickf (v := .bool false) rfl h335 rfl rfl ?_
              refine wpo_run rfl rfl rfl h333 ?_
              refine wpo_move (v := .bool false) rfl rfl ?_
              refine wpo_run rfl rfl rfl rfl ?_
              refine wpo_fieldAddr (o' := 0) fo_45_0 e308 rfl rfl ?_
              refine wpo_run rfl rfl rfl rfl ?_
              refine wpo_load1 (v := .int .i64 m.t.kind) ot_3 rfl (k321.cell rfl) rfl ?_
              refine wpo_run rfl rfl rfl rfl ?_
              refine wpo_neq (q := !(decide (m.t.kind = 5))) rfl rfl rfl rfl ?_
              refine wpo_run rfl rfl rfl rfl ?_
              refine wpo_move (v := .bool (!(decide (m.t.kind = 5)))) rfl rfl ?_
              refine wpo_run rfl rfl rfl (not_of_f h335) ?_
              refine wpo_fieldAddr (o' := 7) fo_45_6 e308 rfl rfl ?_
              refine wpo_run rfl rfl rfl (not_of_f h335) ?_
              refine wpo_load1 (v := .int .i64 m.t.to) ot_3 rfl (k321.cell rfl) rfl ?_
              refine wpo_run rfl rfl rfl (not_of_f h335) ?_
              refine wpo_eql (q := decide (m.t.to = 0)) rfl rfl rfl rfl ?_
              refine wpo_run rfl rfl rfl rfl ?_
              refine wpo_pickt (v := .bool (decide (m.t.to = 0))) rfl (not_of_f h335) rfl rfl ?_
              refine wpo_run rfl rfl rfl h333 ?_
              refine wpo_pickf (v := .bool (decide (m.t.to = 0))) rfl rfl rfl rfl ?_
              refine wpo_pickt (v := .bool (decide (m.t.to = 0))) rfl h333 rfl rfl ?_
              refine wpo_assign (v := .bool (decide (m.t.to = 0))) rfl rfl ?_
              exact wpo_nil ⟨(congrArg Value.bool (by first | (simp only [h148, h149, h150, h151, h152, h153, h154, h155, h156, h157, h216, h217, h218, h219, h220, h221, h230, h255, h312, h313, h314, h322, h333, h335, b0, b1, b2, b3, b4, b5, b6, b7, b8, b9]; done) | simp [h148, h149, h150, h151, h152, h153, h154, h155, h156, h157, h216, h217, h218, h219, h220, h221, h230, h255, h312, h313, h314, h322, h333, h335])), (World.grownBy.refl _ _)⟩
            ·
             have h343 := of_decide_eq_false h333
             iterate 4 refine wpo_pass rfl rfl rfl h333 rfl ?_
             iterate 3 refine wpo_passu rfl rfl rfl rfl ?_
             refine wpo_pass rfl rfl rfl h333 rfl ?_
             refine wpo_pass rfl rfl rfl h333 rfl ?_
             iterate 8 refine wpo_passu rfl rfl rfl rfl ?_
             refine wpo_pass rfl rfl rfl h333 rfl ?_
             refine wpo_pickf (v := .bool false) rfl h333 rfl rfl ?_
             refine wpo_assign (v := .bool false) rfl rfl ?_
             exact wpo_nil ⟨(congrArg Value.bool (by first | (simp only [h148, h149, h150, h151, h152, h153, h154, h155, h156, h157, h216, h217, h218, h219, h220, h221, h230, h255, h312, h313, h314, h322, h333, b0, b1, b2, b3, b4, b5, b6, b7, b8, b9]; done) | simp [h148, h149, h150, h151, h152, h153, h154, h155, h156, h157, h216, h217, h218, h219, h220, h221, h230, h255, h312, h313, h314, h322, h333])), (World.grownBy.refl _ _)⟩
          ·
           rintro f344 w345 ⟨e346, hg347⟩
           have hb348 := low0 hb311 hg347
           refine wpf_ret ?_
           refine ⟨.bool (((decide (m.t.kind = 4)) || (decide ((m.t.queue.length : Int) = 0))) && (((decide (m.t.kind = 5)) && inR m.t.to 1 8) || ((!(decide (m.t.kind = 5))) && (decide (m.t.to = 0))))), res1 rfl e346, ?_, hb348⟩
           exact congrArg Value.bool (th_e h148 h216 (all_of_take (p := numQ) ha (by omega)) (all_of_take (p := rightOk) hb (by omega)) h312)
theorem gf_26 : goFn Try.prog 26 = true := by kernel_rfl
theorem gf_67 : goFn Try.prog 67 = true := by kernel_rfl
theorem zt_40 : zeroTy Try.prog 40 = some (.agg #[.int .i64 0, .int .i64 0]) := by kernel_rfl
theorem zt_45 : zeroTy Try.prog 45 = some (.agg #[.int .i64 0, .int .i64 0, .int .i64 0, .int .i64 0, .int .i64 0, .slice none 0 0, .slice none 0 0, .int .i64 0]) := by kernel_rfl
theorem sThingNew_yt (k to : Int) (l : Lab) (hk : ((decide (k = 2)) || (decide (k = 3))) = true) (hok : newOk k l to = true) (w : World) : CallsR Try.prog 23 #[.int .i64 k, .agg #[.int .i64 l.s, .int .i64 l.v], .int .i64 to] w (fun v w' => ∃ (S sc Q qc : Nat), v = .tuple #[.agg #[.int .i64 k, .int .i64 l.s, .int .i64 l.v, .int .i64 0, .int .i64 0, .slice (some ⟨S, 0, none⟩) 4 sc, .slice (some ⟨Q, 0, none⟩) 0 qc, .int .i64 to], .bool true] ∧ w.heap.size ≤ S ∧ Dw.Own w' S 29 5 sc 4 (zeros4.flatMap Rt.cells) ∧ w.heap.size ≤ Q ∧ Dw.Own w' Q 3 1 qc 0 (([] : List Int).flatMap icell) ∧ S ≠ Q ∧ w.grownBy w' none) := by
 refine calls_of_wpf (n := 24) Try.func23 rfl Try.ntmps23 rfl ?_
 have hb0 := World.grownBy.refl w none
 have hlit : thingOk (⟨k, l, 0, 0, zeros4, [], to⟩ : Th) = true := (newOk_y hk).symm.trans hok
 refine wpf_seq_region ?_
 refine wpo_box (v := .agg #[.int .i64 l.s, .int .i64 l.v]) (cs := #[.int .i64 l.s, .int .i64 l.v]) rfl rfl rfl ?_
 intro B101 w102 hN103
 have hlB101 := hN_ge hN103 hb0
 have hb104 := low0 hb0 hN103.grw
 refine wpo_alloc (cs := #[.int .i64 0, .int .i64 0, .int .i64 0, .int .i64 0, .int .i64 0, .slice none 0 0, .slice none 0 0, .int .i64 0]) zt_45 rfl rfl ?_
 intro B105 w106 hN107
 have hlB105 := hN_ge hN107 hb104
 have lt_B101_B105 := hN_gtl hN107 (hN103.blk).lt
 have hb108 := low0 hb104 hN107.grw
 refine wpo_assign (v := .bool false) rfl rfl ?_
 refine wpo_nil ?_
 refine wpf_seq_region ?_
 refine wpo_move (v := .int .i64 k) rfl rfl ?_
 have k109 := (hN103.blk.grown0 hN107.grw)
 refine wpo_loadn (vs := [.int .i64 l.s, .int .i64 l.v]) rt_40 rfl rfl (k109.rangeL 0 2 rfl) rfl ?_
 refine wpo_buildSlice (ps := []) (e := 29) (cs := (([] : List Rt).flatMap Rt.cells).toArray) parts_nil (fun _ => by kernel_rfl) rfl ?_
 intro B110 w111 hN112
 have hlB110 := hN_ge hN112 hb108
 have lt_B101_B110 := hN_gtl hN112 (k109).lt
 have lt_B105_B110 := hN_gtl hN112 (hN107.blk).lt
 have hb113 := low0 hb108 hN112.grw
 refine wpo_buildSlice (ps := []) (e := 3) (cs := (([] : List Int).flatMap icell).toArray) parts_nil (fun _ => by kernel_rfl) rfl ?_
 intro B114 w115 hN116
 have hlB114 := hN_ge hN116 hb113
 have k117 := (k109.grown0 hN112.grw)
 have lt_B101_B114 := hN_gtl hN116 (k117).lt
 have k118 := (hN107.blk.grown0 hN112.grw)
 have lt_B105_B114 := hN_gtl hN116 (k118).lt
 have lt_B110_B114 := hN_gtl hN116 (hN112.blk).lt
 have hb119 := low0 hb113 hN116.grw
 refine wpo_move (v := .int .i64 to) rfl rfl ?_
 refine wpo_build (ps := [(0, .int .i64 k), (1, .agg #[.int .i64 l.s, .int .i64 l.v]), (4, .slice (some ⟨B110, 0, none⟩) 0 0), (5, .slice (some ⟨B114, 0, none⟩) 0 0), (6, .int .i64 to)]) (v := .agg #[.int .i64 k, .int .i64 l.s, .int .i64 l.v, .int .i64 0, .int .i64 0, .slice (some ⟨B110, 0, none⟩) 0 0, .slice (some ⟨B114, 0, none⟩) 0 0, .int .i64 to]) (parts_cons rfl (parts_cons rfl (parts_cons rfl (parts_cons rfl (parts_cons rfl parts_nil))))) (by kernel_rfl) rfl ?_
 refine wpo_alloc (cs := #[.int .i64 0, .int .i64 0, .int .i64 0, .int .i64 0, .int .i64 0, .slice none 0 0, .slice none 0 0, .int .i64 0]) zt_45 rfl rfl ?_
 intro B120 w121 hN122
 have hlB120 := hN_ge hN122 hb119
 have k123 := (k117.grown0 hN116.grw)
 have lt_B101_B120 := hN_gtl hN122 (k123).lt
 have k124 := (k118.grown0 hN116.grw)
 have lt_B105_B120 := hN_gtl hN122 (k124).lt
 have k125 := (hN112.blk.grown0 hN116.grw)
 have lt_B110_B120 := hN_gtl hN122 (k125).lt
 have lt_B114_B120 := hN_gtl hN122 (hN116.blk).lt
 have hb126 := low0 hb119 hN122.grw
 refine wpo_storen (vs := [.int .i64 k, .int .i64 l.s, .int .i64 l.v, .int .i64 0, .int .i64 0, .slice (some ⟨B110, 0, none⟩) 0 0, .slice (some ⟨B114, 0, none⟩) 0 0, .int .i64 to]) (cs' := #[.int .i64 k, .int .i64 l.s, .int .i64 l.v, .int .i64 0, .int .i64 0, .slice (some ⟨B110, 0, none⟩) 0 0, .slice (some ⟨B114, 0, none⟩) 0 0, .int .i64 to]) rt_45 rfl rfl rfl (by simp [Value.oneCell']) hN122.blk (Nat.le_of_ble_eq_true rfl) rfl ?_
 intro w127 hS128
 have hb129 := low1 hb126 hS128.grw (by omega)
 refine wpo_nil ?_
 refine wpf_seq ?_
 refine wpf_seq_region ?_
 refine wpo_move (v := .int .i64 k) rfl rfl ?_
 refine wpo_call (vs := [.int .i64 k]) gf_66 (args_cons rfl args_nil) rfl (l3Slots_c k _) ?_
 rintro _ w130 ⟨rfl, hg131⟩
 have hb132 := low0 hb129 hg131
 refine wpo_nil ?_
 refine wpf_condt rfl hk ?_
 refine wpf_region ?_
 refine wpo_make (g := Rt.cells) (z := Rt.zero) (c := 4) mk_27 rfl wide_rt (by omega) rfl rfl (by omega) (by omega) rfl ?_
 intro B133 w134 hN135
 have hlB133 := hN_ge hN135 hb132
 have k136 := (((k123.grown0 hN122.grw).grown hS128.grw (some_ne (by omega))).grown0 hg131)
 have lt_B101_B133 := hN_gtl hN135 (k136).lt
 have k137 := (((k124.grown0 hN122.grw).grown hS128.grw (some_ne (by omega))).grown0 hg131)
 have lt_B105_B133 := hN_gtl hN135 (k137).lt
 have k138 := (((k125.grown0 hN122.grw).grown hS128.grw (some_ne (by omega))).grown0 hg131)
 have lt_B110_B133 := hN_gtl hN135 (k138).lt
 have k139 := (((hN116.blk.grown0 hN122.grw).grown hS128.grw (some_ne (by omega))).grown0 hg131)
 have lt_B114_B133 := hN_gtl hN135 (k139).lt
 have k140 := (hS128.blk.grown0 hg131)
 have lt_B120_B133 := hN_gtl hN135 (k140).lt
 have hb141 := low0 hb132 hN135.grw
 refine wpo_fieldAddr (o' := 5) fo_45_4 rfl rfl rfl ?_
 have k142 := (k140.grown0 hN135.grw)
 refine wpo_store1 (v := .slice (some ⟨B133, 0, none⟩) 4 4) (cs' := #[.int .i64 k, .int .i64 l.s, .int .i64 l.v, .int .i64 0, .int .i64 0, .slice (some ⟨B133, 0, none⟩) 4 4, .slice (some ⟨B114, 0, none⟩) 0 0, .int .i64 to]) ot_27 rfl rfl rfl k142 (Nat.le_of_ble_eq_true rfl) rfl ?_
 intro w143 hS144
 have hb145 := low1 hb141 hS144.grw (by omega)
 refine wpo_nil ?_
 refine thn_n ?_
 refine wpf_seq ?_
 refine wpf_seq_region ?_
 refine wpo_loadn (vs := [.int .i64 k, .int .i64 l.s, .int .i64 l.v, .int .i64 0, .int .i64 0, .slice (some ⟨B133, 0, none⟩) 4 4, .slice (some ⟨B114, 0, none⟩) 0 0, .int .i64 to]) rt_45 rfl rfl (hS144.blk.rangeL 0 8 rfl) rfl ?_
 have k146 := (hN135.blk.grown hS144.grw (some_ne (by omega)))
 have k147 := ((k139.grown0 hN135.grw).grown hS144.grw (some_ne (by omega)))
 refine wpo_call (vs := [.agg #[.int .i64 k, .int .i64 l.s, .int .i64 l.v, .int .i64 0, .int .i64 0, .slice (some ⟨B133, 0, none⟩) 4 4, .slice (some ⟨B114, 0, none⟩) 0 0, .int .i64 to]]) gf_67 (args_cons rfl args_nil) rfl (sThingOk_c (⟨⟨k, l, 0, 0, zeros4, [], to⟩, some ⟨B133, 0, none⟩, 4, some ⟨B114, 0, none⟩, 0⟩ : MTh) _ (rows_sl wide_rt k146) (rows_sl wide_int k147) (by first | omega | exact Nat.le_of_ble_eq_true rfl | (simp only [List.length_nil, List.length_cons, List.length_append, List.length_replicate]; omega)) (by first | omega | exact Nat.le_of_ble_eq_true rfl | (simp only [List.length_nil, List.length_cons, List.length_append, List.length_replicate]; omega))) ?_
 rintro _ w148 ⟨rfl, hg149⟩
 have hb150 := low0 hb145 hg149
 refine wpo_not (b' := !thingOk (⟨k, l, 0, 0, zeros4, [], to⟩ : Th)) rfl rfl rfl ?_
 refine wpo_nil ?_
 refine wpf_condf rfl (not_of_t hlit) ?_
 refine wpf_skip ?_
 refine thn_n ?_
 refine wpf_seq_region ?_
 have k151 := (hS144.blk.grown0 hg149)
 refine wpo_loadn (vs := [.int .i64 k, .int .i64 l.s, .int .i64 l.v, .int .i64 0, .int .i64 0, .slice (some ⟨B133, 0, none⟩) 4 4, .slice (some ⟨B114, 0, none⟩) 0 0, .int .i64 to]) rt_45 rfl rfl (k151.rangeL 0 8 rfl) rfl ?_
 have k152 := (((k137.grown0 hN135.grw).grown hS144.grw (some_ne (by omega))).grown0 hg149)
 refine wpo_storen (vs := [.int .i64 k, .int .i64 l.s, .int .i64 l.v, .int .i64 0, .int .i64 0, .slice (some ⟨B133, 0, none⟩) 4 4, .slice (some ⟨B114, 0, none⟩) 0 0, .int .i64 to]) (cs' := #[.int .i64 k, .int .i64 l.s, .int .i64 l.v, .int .i64 0, .int .i64 0, .slice (some ⟨B133, 0, none⟩) 4 4, .slice (some ⟨B114, 0, none⟩) 0 0, .int .i64 to]) rt_45 rfl rfl rfl (by simp [Value.oneCell']) k152 (Nat.le_of_ble_eq_true rfl) rfl ?_
 intro w153 hS154
 have hb155 := low1 hb150 hS154.grw (by omega)
 refine wpo_assign (v := .bool true) rfl rfl ?_
 refine wpo_nil ?_
 refine wpf_ret ?_
 have k156 := ((k146.grown0 hg149).grown hS154.grw (some_ne (by omega)))
 have k157 := ((k147.grown0 hg149).grown hS154.grw (some_ne (by omega)))
 refine ⟨.tuple #[.agg #[.int .i64 k, .int .i64 l.s, .int .i64 l.v, .int .i64 0, .int .i64 0, .slice (some ⟨B133, 0, none⟩) 4 4, .slice (some ⟨B114, 0, none⟩) 0 0, .int .i64 to], .bool true], resCT rfl (resCell_mk (vs := [.int .i64 k, .int .i64 l.s, .int .i64 l.v, .int .i64 0, .int .i64 0, .slice (some ⟨B133, 0, none⟩) 4 4, .slice (some ⟨B114, 0, none⟩) 0 0, .int .i64 to]) rt_45 rfl rfl (hS154.blk.rangeL 0 8 rfl)) rfl, B133, 4, B114, 0, rfl, hlB133, (Own.rows wide_rt k156 (by decide)), hlB114, (Own.rows wide_int k157 (by decide)), (Nat.ne_of_gt lt_B114_B133), hb155⟩
theorem sThingNew_yf (k to : Int) (l : Lab) (hk : ((decide (k = 2)) || (decide (k = 3))) = true) (hok : newOk k l to = false) (w : World) : CallsR Try.prog 23 #[.int .i64 k, .agg #[.int .i64 l.s, .int .i64 l.v], .int .i64 to] w (fun v w' => v = .tuple #[.agg #[.int .i64 0, .int .i64 0, .int .i64 0, .int .i64 0, .int .i64 0, .slice none 0 0, .slice none 0 0, .int .i64 0], .bool false] ∧ w.grownBy w' none) := by
 refine calls_of_wpf (n := 24) Try.func23 rfl Try.ntmps23 rfl ?_
 have hb0 := World.grownBy.refl w none
 have hlit : thingOk (⟨k, l, 0, 0, zeros4, [], to⟩ : Th) = false := (newOk_y hk).symm.trans hok
 refine wpf_seq_region ?_
 refine wpo_box (v := .agg #[.int .i64 l.s, .int .i64 l.v]) (cs := #[.int .i64 l.s, .int .i64 l.v]) rfl rfl rfl ?_
 intro B101 w102 hN103
 have hlB101 := hN_ge hN103 hb0
 have hb104 := low0 hb0 hN103.grw
 refine wpo_alloc (cs := #[.int .i64 0, .int .i64 0, .int .i64 0, .int .i64 0, .int .i64 0, .slice none 0 0, .slice none 0 0, .int .i64 0]) zt_45 rfl rfl ?_
 intro B105 w106 hN107
 have hlB105 := hN_ge hN107 hb104
 have lt_B101_B105 := hN_gtl hN107 (hN103.blk).lt
 have hb108 := low0 hb104 hN107.grw
 refine wpo_assign (v := .bool false) rfl rfl ?_
 refine wpo_nil ?_
 refine wpf_seq_region ?_
 refine wpo_move (v := .int .i64 k) rfl rfl ?_
 have k109 := (hN103.blk.grown0 hN107.grw)
 refine wpo_loadn (vs := [.int .i64 l.s, .int .i64 l.v]) rt_40 rfl rfl (k109.rangeL 0 2 rfl) rfl ?_
 refine wpo_buildSlice (ps := []) (e := 29) (cs := (([] : List Rt).flatMap Rt.cells).toArray) parts_nil (fun _ => by kernel_rfl) rfl ?_
 intro B110 w111 hN112
 have hlB110 := hN_ge hN112 hb108
 have lt_B101_B110 := hN_gtl hN112 (k109).lt
 have lt_B105_B110 := hN_gtl hN112 (hN107.blk).lt
 have hb113 := low0 hb108 hN112.grw
 refine wpo_buildSlice (ps := []) (e := 3) (cs := (([] : List Int).flatMap icell).toArray) parts_nil (fun _ => by kernel_rfl) rfl ?_
 intro B114 w115 hN116
 have hlB114 := hN_ge hN116 hb113
 have k117 := (k109.grown0 hN112.grw)
 have lt_B101_B114 := hN_gtl hN116 (k117).lt
 have k118 := (hN107.blk.grown0 hN112.grw)
 have lt_B105_B114 := hN_gtl hN116 (k118).lt
 have lt_B110_B114 := hN_gtl hN116 (hN112.blk).lt
 have hb119 := low0 hb113 hN116.grw
 refine wpo_move (v := .int .i64 to) rfl rfl ?_
 refine wpo_build (ps := [(0, .int .i64 k), (1, .agg #[.int .i64 l.s, .int .i64 l.v]), (4, .slice (some ⟨B110, 0, none⟩) 0 0), (5, .slice (some ⟨B114, 0, none⟩) 0 0), (6, .int .i64 to)]) (v := .agg #[.int .i64 k, .int .i64 l.s, .int .i64 l.v, .int .i64 0, .int .i64 0, .slice (some ⟨B110, 0, none⟩) 0 0, .slice (some ⟨B114, 0, none⟩) 0 0, .int .i64 to]) (parts_cons rfl (parts_cons rfl (parts_cons rfl (parts_cons rfl (parts_cons rfl parts_nil))))) (by kernel_rfl) rfl ?_
 refine wpo_alloc (cs := #[.int .i64 0, .int .i64 0, .int .i64 0, .int .i64 0, .int .i64 0, .slice none 0 0, .slice none 0 0, .int .i64 0]) zt_45 rfl rfl ?_
 intro B120 w121 hN122
 have hlB120 := hN_ge hN122 hb119
 have k123 := (k117.grown0 hN116.grw)
 have lt_B101_B120 := hN_gtl hN122 (k123).lt
 have k124 := (k118.grown0 hN116.grw)
 have lt_B105_B120 := hN_gtl hN122 (k124).lt
 have k125 := (hN112.blk.grown0 hN116.grw)
 have lt_B110_B120 := hN_gtl hN122 (k125).lt
 have lt_B114_B120 := hN_gtl hN122 (hN116.blk).lt
 have hb126 := low0 hb119 hN122.grw
 refine wpo_storen (vs := [.int .i64 k, .int .i64 l.s, .int .i64 l.v, .int .i64 0, .int .i64 0, .slice (some ⟨B110, 0, none⟩) 0 0, .slice (some ⟨B114, 0, none⟩) 0 0, .int .i64 to]) (cs' := #[.int .i64 k, .int .i64 l.s, .int .i64 l.v, .int .i64 0, .int .i64 0, .slice (some ⟨B110, 0, none⟩) 0 0, .slice (some ⟨B114, 0, none⟩) 0 0, .int .i64 to]) rt_45 rfl rfl rfl (by simp [Value.oneCell']) hN122.blk (Nat.le_of_ble_eq_true rfl) rfl ?_
 intro w127 hS128
 have hb129 := low1 hb126 hS128.grw (by omega)
 refine wpo_nil ?_
 refine wpf_seq ?_
 refine wpf_seq_region ?_
 refine wpo_move (v := .int .i64 k) rfl rfl ?_
 refine wpo_call (vs := [.int .i64 k]) gf_66 (args_cons rfl args_nil) rfl (l3Slots_c k _) ?_
 rintro _ w130 ⟨rfl, hg131⟩
 have hb132 := low0 hb129 hg131
 refine wpo_nil ?_
 refine wpf_condt rfl hk ?_
 refine wpf_region ?_
 refine wpo_make (g := Rt.cells) (z := Rt.zero) (c := 4) mk_27 rfl wide_rt (by omega) rfl rfl (by omega) (by omega) rfl ?_
 intro B133 w134 hN135
 have hlB133 := hN_ge hN135 hb132
 have k136 := (((k123.grown0 hN122.grw).grown hS128.grw (some_ne (by omega))).grown0 hg131)
 have lt_B101_B133 := hN_gtl hN135 (k136).lt
 have k137 := (((k124.grown0 hN122.grw).grown hS128.grw (some_ne (by omega))).grown0 hg131)
 have lt_B105_B133 := hN_gtl hN135 (k137).lt
 have k138 := (((k125.grown0 hN122.grw).grown hS128.grw (some_ne (by omega))).grown0 hg131)
 have lt_B110_B133 := hN_gtl hN135 (k138).lt
 have k139 := (((hN116.blk.grown0 hN122.grw).grown hS128.grw (some_ne (by omega))).grown0 hg131)
 have lt_B114_B133 := hN_gtl hN135 (k139).lt
 have k140 := (hS128.blk.grown0 hg131)
 have lt_B120_B133 := hN_gtl hN135 (k140).lt
 have hb141 := low0 hb132 hN135.grw
 refine wpo_fieldAddr (o' := 5) fo_45_4 rfl rfl rfl ?_
 have k142 := (k140.grown0 hN135.grw)
 refine wpo_store1 (v := .slice (some ⟨B133, 0, none⟩) 4 4) (cs' := #[.int .i64 k, .int .i64 l.s, .int .i64 l.v, .int .i64 0, .int .i64 0, .slice (some ⟨B133, 0, none⟩) 4 4, .slice (some ⟨B114, 0, none⟩) 0 0, .int .i64 to]) ot_27 rfl rfl rfl k142 (Nat.le_of_ble_eq_true rfl) rfl ?_
 intro w143 hS144
 have hb145 := low1 hb141 hS144.grw (by omega)
 refine wpo_nil ?_
 refine thn_n ?_
 refine wpf_seq ?_
 refine wpf_seq_region ?_
 refine wpo_loadn (vs := [.int .i64 k, .int .i64 l.s, .int .i64 l.v, .int .i64 0, .int .i64 0, .slice (some ⟨B133, 0, none⟩) 4 4, .slice (some ⟨B114, 0, none⟩) 0 0, .int .i64 to]) rt_45 rfl rfl (hS144.blk.rangeL 0 8 rfl) rfl ?_
 have k146 := (hN135.blk.grown hS144.grw (some_ne (by omega)))
 have k147 := ((k139.grown0 hN135.grw).grown hS144.grw (some_ne (by omega)))
 refine wpo_call (vs := [.agg #[.int .i64 k, .int .i64 l.s, .int .i64 l.v, .int .i64 0, .int .i64 0, .slice (some ⟨B133, 0, none⟩) 4 4, .slice (some ⟨B114, 0, none⟩) 0 0, .int .i64 to]]) gf_67 (args_cons rfl args_nil) rfl (sThingOk_c (⟨⟨k, l, 0, 0, zeros4, [], to⟩, some ⟨B133, 0, none⟩, 4, some ⟨B114, 0, none⟩, 0⟩ : MTh) _ (rows_sl wide_rt k146) (rows_sl wide_int k147) (by first | omega | exact Nat.le_of_ble_eq_true rfl | (simp only [List.length_nil, List.length_cons, List.length_append, List.length_replicate]; omega)) (by first | omega | exact Nat.le_of_ble_eq_true rfl | (simp only [List.length_nil, List.length_cons, List.length_append, List.length_replicate]; omega))) ?_
 rintro _ w148 ⟨rfl, hg149⟩
 have hb150 := low0 hb145 hg149
 refine wpo_not (b' := !thingOk (⟨k, l, 0, 0, zeros4, [], to⟩ : Th)) rfl rfl rfl ?_
 refine wpo_nil ?_
 refine wpf_condt rfl (not_of_f hlit) ?_
 refine wpf_seq_region ?_
 refine wpo_build (ps := []) (v := .agg #[.int .i64 0, .int .i64 0, .int .i64 0, .int .i64 0, .int .i64 0, .slice none 0 0, .slice none 0 0, .int .i64 0]) parts_nil (by kernel_rfl) rfl ?_
 have k151 := (((k137.grown0 hN135.grw).grown hS144.grw (some_ne (by omega))).grown0 hg149)
 refine wpo_storen (vs := [.int .i64 0, .int .i64 0, .int .i64 0, .int .i64 0, .int .i64 0, .slice none 0 0, .slice none 0 0, .int .i64 0]) (cs' := #[.int .i64 0, .int .i64 0, .int .i64 0, .int .i64 0, .int .i64 0, .slice none 0 0, .slice none 0 0, .int .i64 0]) rt_45 rfl rfl rfl (by simp [Value.oneCell']) k151 (Nat.le_of_ble_eq_true rfl) rfl ?_
 intro w152 hS153
 have hb154 := low1 hb150 hS153.grw (by omega)
 refine wpo_assign (v := .bool false) rfl rfl ?_
 refine wpo_nil ?_
 refine wpf_ret ?_
 refine thn_r ?_
 refine ⟨.tuple #[.agg #[.int .i64 0, .int .i64 0, .int .i64 0, .int .i64 0, .int .i64 0, .slice none 0 0, .slice none 0 0, .int .i64 0], .bool false], resCT rfl (resCell_mk (vs := [.int .i64 0, .int .i64 0, .int .i64 0, .int .i64 0, .int .i64 0, .slice none 0 0, .slice none 0 0, .int .i64 0]) rt_45 rfl rfl (hS153.blk.rangeL 0 8 rfl)) rfl, rfl, hb154⟩
theorem sThingNew_nt (k to : Int) (l : Lab) (hk : ((decide (k = 2)) || (decide (k = 3))) = false) (hok : newOk k l to = true) (w : World) : CallsR Try.prog 23 #[.int .i64 k, .agg #[.int .i64 l.s, .int .i64 l.v], .int .i64 to] w (fun v w' => ∃ (S sc Q qc : Nat), v = .tuple #[.agg #[.int .i64 k, .int .i64 l.s, .int .i64 l.v, .int .i64 0, .int .i64 0, .slice (some ⟨S, 0, none⟩) 0 sc, .slice (some ⟨Q, 0, none⟩) 0 qc, .int .i64 to], .bool true] ∧ w.heap.size ≤ S ∧ Dw.Own w' S 29 5 sc 0 (([] : List Rt).flatMap Rt.cells) ∧ w.heap.size ≤ Q ∧ Dw.Own w' Q 3 1 qc 0 (([] : List Int).flatMap icell) ∧ S ≠ Q ∧ w.grownBy w' none) := by
 refine calls_of_wpf (n := 24) Try.func23 rfl Try.ntmps23 rfl ?_
 have hb0 := World.grownBy.refl w none
 have hlit : thingOk (⟨k, l, 0, 0, [], [], to⟩ : Th) = true := (newOk_n hk).symm.trans hok
 have h101 : decide (k = 2) = false := or_l hk
 have h102 : decide (k = 3) = false := or_r hk
 refine wpf_seq_region ?_
 refine wpo_box (v := .agg #[.int .i64 l.s, .int .i64 l.v]) (cs := #[.int .i64 l.s, .int .i64 l.v]) rfl rfl rfl ?_
 intro B103 w104 hN105
 have hlB103 := hN_ge hN105 hb0
 have hb106 := low0 hb0 hN105.grw
 refine wpo_alloc (cs := #[.int .i64 0, .int .i64 0, .int .i64 0, .int .i64 0, .int .i64 0, .slice none 0 0, .slice none 0 0, .int .i64 0]) zt_45 rfl rfl ?_
 intro B107 w108 hN109
 have hlB107 := hN_ge hN109 hb106
 have lt_B103_B107 := hN_gtl hN109 (hN105.blk).lt
 have hb110 := low0 hb106 hN109.grw
 refine wpo_assign (v := .bool false) rfl rfl ?_
 refine wpo_nil ?_
 refine wpf_seq_region ?_
 refine wpo_move (v := .int .i64 k) rfl rfl ?_
 have k111 := (hN105.blk.grown0 hN109.grw)
 refine wpo_loadn (vs := [.int .i64 l.s, .int .i64 l.v]) rt_40 rfl rfl (k111.rangeL 0 2 rfl) rfl ?_
 refine wpo_buildSlice (ps := []) (e := 29) (cs := (([] : List Rt).flatMap Rt.cells).toArray) parts_nil (fun _ => by kernel_rfl) rfl ?_
 intro B112 w113 hN114
 have hlB112 := hN_ge hN114 hb110
 have lt_B103_B112 := hN_gtl hN114 (k111).lt
 have lt_B107_B112 := hN_gtl hN114 (hN109.blk).lt
 have hb115 := low0 hb110 hN114.grw
 refine wpo_buildSlice (ps := []) (e := 3) (cs := (([] : List Int).flatMap icell).toArray) parts_nil (fun _ => by kernel_rfl) rfl ?_
 intro B116 w117 hN118
 have hlB116 := hN_ge hN118 hb115
 have k119 := (k111.grown0 hN114.grw)
 have lt_B103_B116 := hN_gtl hN118 (k119).lt
 have k120 := (hN109.blk.grown0 hN114.grw)
 have lt_B107_B116 := hN_gtl hN118 (k120).lt
 have lt_B112_B116 := hN_gtl hN118 (hN114.blk).lt
 have hb121 := low0 hb115 hN118.grw
 refine wpo_move (v := .int .i64 to) rfl rfl ?_
 refine wpo_build (ps := [(0, .int .i64 k), (1, .agg #[.int .i64 l.s, .int .i64 l.v]), (4, .slice (some ⟨B112, 0, none⟩) 0 0), (5, .slice (some ⟨B116, 0, none⟩) 0 0), (6, .int .i64 to)]) (v := .agg #[.int .i64 k, .int .i64 l.s, .int .i64 l.v, .int .i64 0, .int .i64 0, .slice (some ⟨B112, 0, none⟩) 0 0, .slice (some ⟨B116, 0, none⟩) 0 0, .int .i64 to]) (parts_cons rfl (parts_cons rfl (parts_cons rfl (parts_cons rfl (parts_cons rfl parts_nil))))) (by kernel_rfl) rfl ?_
 refine wpo_alloc (cs := #[.int .i64 0, .int .i64 0, .int .i64 0, .int .i64 0, .int .i64 0, .slice none 0 0, .slice none 0 0, .int .i64 0]) zt_45 rfl rfl ?_
 intro B122 w123 hN124
 have hlB122 := hN_ge hN124 hb121
 have k125 := (k119.grown0 hN118.grw)
 have lt_B103_B122 := hN_gtl hN124 (k125).lt
 have k126 := (k120.grown0 hN118.grw)
 have lt_B107_B122 := hN_gtl hN124 (k126).lt
 have k127 := (hN114.blk.grown0 hN118.grw)
 have lt_B112_B122 := hN_gtl hN124 (k127).lt
 have lt_B116_B122 := hN_gtl hN124 (hN118.blk).lt
 have hb128 := low0 hb121 hN124.grw
 refine wpo_storen (vs := [.int .i64 k, .int .i64 l.s, .int .i64 l.v, .int .i64 0, .int .i64 0, .slice (some ⟨B112, 0, none⟩) 0 0, .slice (some ⟨B116, 0, none⟩) 0 0, .int .i64 to]) (cs' := #[.int .i64 k, .int .i64 l.s, .int .i64 l.v, .int .i64 0, .int .i64 0, .slice (some ⟨B112, 0, none⟩) 0 0, .slice (some ⟨B116, 0, none⟩) 0 0, .int .i64 to]) rt_45 rfl rfl rfl (by simp [Value.oneCell']) hN124.blk (Nat.le_of_ble_eq_true rfl) rfl ?_
 intro w129 hS130
 have hb131 := low1 hb128 hS130.grw (by omega)
 refine wpo_nil ?_
 refine wpf_seq ?_
 refine wpf_seq_region ?_
 refine wpo_move (v := .int .i64 k) rfl rfl ?_
 refine wpo_call (vs := [.int .i64 k]) gf_66 (args_cons rfl args_nil) rfl (l3Slots_c k _) ?_
 rintro _ w132 ⟨rfl, hg133⟩
 have hb134 := low0 hb131 hg133
 refine wpo_nil ?_
 refine wpf_condf rfl hk ?_
 refine wpf_skip ?_
 refine thn_n ?_
 refine wpf_seq ?_
 refine wpf_seq_region ?_
 have k135 := (hS130.blk.grown0 hg133)
 refine wpo_loadn (vs := [.int .i64 k, .int .i64 l.s, .int .i64 l.v, .int .i64 0, .int .i64 0, .slice (some ⟨B112, 0, none⟩) 0 0, .slice (some ⟨B116, 0, none⟩) 0 0, .int .i64 to]) rt_45 rfl rfl (k135.rangeL 0 8 rfl) rfl ?_
 have k136 := (((k127.grown0 hN124.grw).grown hS130.grw (some_ne (by omega))).grown0 hg133)
 have k137 := (((hN118.blk.grown0 hN124.grw).grown hS130.grw (some_ne (by omega))).grown0 hg133)
 refine wpo_call (vs := [.agg #[.int .i64 k, .int .i64 l.s, .int .i64 l.v, .int .i64 0, .int .i64 0, .slice (some ⟨B112, 0, none⟩) 0 0, .slice (some ⟨B116, 0, none⟩) 0 0, .int .i64 to]]) gf_67 (args_cons rfl args_nil) rfl (sThingOk_c (⟨⟨k, l, 0, 0, [], [], to⟩, some ⟨B112, 0, none⟩, 0, some ⟨B116, 0, none⟩, 0⟩ : MTh) _ (rows_sl wide_rt k136) (rows_sl wide_int k137) (by first | omega | exact Nat.le_of_ble_eq_true rfl | (simp only [List.length_nil, List.length_cons, List.length_append, List.length_replicate]; omega)) (by first | omega | exact Nat.le_of_ble_eq_true rfl | (simp only [List.length_nil, List.length_cons, List.length_append, List.length_replicate]; omega))) ?_
 rintro _ w138 ⟨rfl, hg139⟩
 have hb140 := low0 hb134 hg139
 refine wpo_not (b' := !thingOk (⟨k, l, 0, 0, [], [], to⟩ : Th)) rfl rfl rfl ?_
 refine wpo_nil ?_
 refine wpf_condf rfl (not_of_t hlit) ?_
 refine wpf_skip ?_
 refine thn_n ?_
 refine wpf_seq_region ?_
 have k141 := (k135.grown0 hg139)
 refine wpo_loadn (vs := [.int .i64 k, .int .i64 l.s, .int .i64 l.v, .int .i64 0, .int .i64 0, .slice (some ⟨B112, 0, none⟩) 0 0, .slice (some ⟨B116, 0, none⟩) 0 0, .int .i64 to]) rt_45 rfl rfl (k141.rangeL 0 8 rfl) rfl ?_
 have k142 := ((((k126.grown0 hN124.grw).grown hS130.grw (some_ne (by omega))).grown0 hg133).grown0 hg139)
 refine wpo_storen (vs := [.int .i64 k, .int .i64 l.s, .int .i64 l.v, .int .i64 0, .int .i64 0, .slice (some ⟨B112, 0, none⟩) 0 0, .slice (some ⟨B116, 0, none⟩) 0 0, .int .i64 to]) (cs' := #[.int .i64 k, .int .i64 l.s, .int .i64 l.v, .int .i64 0, .int .i64 0, .slice (some ⟨B112, 0, none⟩) 0 0, .slice (some ⟨B116, 0, none⟩) 0 0, .int .i64 to]) rt_45 rfl rfl rfl (by simp [Value.oneCell']) k142 (Nat.le_of_ble_eq_true rfl) rfl ?_
 intro w143 hS144
 have hb145 := low1 hb140 hS144.grw (by omega)
 refine wpo_assign (v := .bool true) rfl rfl ?_
 refine wpo_nil ?_
 refine wpf_ret ?_
 have k146 := ((k136.grown0 hg139).grown hS144.grw (some_ne (by omega)))
 have k147 := ((k137.grown0 hg139).grown hS144.grw (some_ne (by omega)))
 refine ⟨.tuple #[.agg #[.int .i64 k, .int .i64 l.s, .int .i64 l.v, .int .i64 0, .int .i64 0, .slice (some ⟨B112, 0, none⟩) 0 0, .slice (some ⟨B116, 0, none⟩) 0 0, .int .i64 to], .bool true], resCT rfl (resCell_mk (vs := [.int .i64 k, .int .i64 l.s, .int .i64 l.v, .int .i64 0, .int .i64 0, .slice (some ⟨B112, 0, none⟩) 0 0, .slice (some ⟨B116, 0, none⟩) 0 0, .int .i64 to]) rt_45 rfl rfl (hS144.blk.rangeL 0 8 rfl)) rfl, B112, 0, B116, 0, rfl, hlB112, (Own.rows wide_rt k146 (by decide)), hlB116, (Own.rows wide_int k147 (by decide)), (Nat.ne_of_lt lt_B112_B116), hb145⟩
theorem sThingNew_nf (k to : Int) (l : Lab) (hk : ((decide (k = 2)) || (decide (k = 3))) = false) (hok : newOk k l to = false) (w : World) : CallsR Try.prog 23 #[.int .i64 k, .agg #[.int .i64 l.s, .int .i64 l.v], .int .i64 to] w (fun v w' => v = .tuple #[.agg #[.int .i64 0, .int .i64 0, .int .i64 0, .int .i64 0, .int .i64 0, .slice none 0 0, .slice none 0 0, .int .i64 0], .bool false] ∧ w.grownBy w' none) := by
 refine calls_of_wpf (n := 24) Try.func23 rfl Try.ntmps23 rfl ?_
 have hb0 := World.grownBy.refl w none
 have hlit : thingOk (⟨k, l, 0, 0, [], [], to⟩ : Th) = false := (newOk_n hk).symm.trans hok
 have h101 : decide (k = 2) = false := or_l hk
 have h102 : decide (k = 3) = false := or_r hk
 refine wpf_seq_region ?_
 refine wpo_box (v := .agg #[.int .i64 l.s, .int .i64 l.v]) (cs := #[.int .i64 l.s, .int .i64 l.v]) rfl rfl rfl ?_
 intro B103 w104 hN105
 have hlB103 := hN_ge hN105 hb0
 have hb106 := low0 hb0 hN105.grw
 refine wpo_alloc (cs := #[.int .i64 0, .int .i64 0, .int .i64 0, .int .i64 0, .int .i64 0, .slice none 0 0, .slice none 0 0, .int .i64 0]) zt_45 rfl rfl ?_
 intro B107 w108 hN109
 have hlB107 := hN_ge hN109 hb106
 have lt_B103_B107 := hN_gtl hN109 (hN105.blk).lt
 have hb110 := low0 hb106 hN109.grw
 refine wpo_assign (v := .bool false) rfl rfl ?_
 refine wpo_nil ?_
 refine wpf_seq_region ?_
 refine wpo_move (v := .int .i64 k) rfl rfl ?_
 have k111 := (hN105.blk.grown0 hN109.grw)
 refine wpo_loadn (vs := [.int .i64 l.s, .int .i64 l.v]) rt_40 rfl rfl (k111.rangeL 0 2 rfl) rfl ?_
 refine wpo_buildSlice (ps := []) (e := 29) (cs := (([] : List Rt).flatMap Rt.cells).toArray) parts_nil (fun _ => by kernel_rfl) rfl ?_
 intro B112 w113 hN114
 have hlB112 := hN_ge hN114 hb110
 have lt_B103_B112 := hN_gtl hN114 (k111).lt
 have lt_B107_B112 := hN_gtl hN114 (hN109.blk).lt
 have hb115 := low0 hb110 hN114.grw
 refine wpo_buildSlice (ps := []) (e := 3) (cs := (([] : List Int).flatMap icell).toArray) parts_nil (fun _ => by kernel_rfl) rfl ?_
 intro B116 w117 hN118
 have hlB116 := hN_ge hN118 hb115
 have k119 := (k111.grown0 hN114.grw)
 have lt_B103_B116 := hN_gtl hN118 (k119).lt
 have k120 := (hN109.blk.grown0 hN114.grw)
 have lt_B107_B116 := hN_gtl hN118 (k120).lt
 have lt_B112_B116 := hN_gtl hN118 (hN114.blk).lt
 have hb121 := low0 hb115 hN118.grw
 refine wpo_move (v := .int .i64 to) rfl rfl ?_
 refine wpo_build (ps := [(0, .int .i64 k), (1, .agg #[.int .i64 l.s, .int .i64 l.v]), (4, .slice (some ⟨B112, 0, none⟩) 0 0), (5, .slice (some ⟨B116, 0, none⟩) 0 0), (6, .int .i64 to)]) (v := .agg #[.int .i64 k, .int .i64 l.s, .int .i64 l.v, .int .i64 0, .int .i64 0, .slice (some ⟨B112, 0, none⟩) 0 0, .slice (some ⟨B116, 0, none⟩) 0 0, .int .i64 to]) (parts_cons rfl (parts_cons rfl (parts_cons rfl (parts_cons rfl (parts_cons rfl parts_nil))))) (by kernel_rfl) rfl ?_
 refine wpo_alloc (cs := #[.int .i64 0, .int .i64 0, .int .i64 0, .int .i64 0, .int .i64 0, .slice none 0 0, .slice none 0 0, .int .i64 0]) zt_45 rfl rfl ?_
 intro B122 w123 hN124
 have hlB122 := hN_ge hN124 hb121
 have k125 := (k119.grown0 hN118.grw)
 have lt_B103_B122 := hN_gtl hN124 (k125).lt
 have k126 := (k120.grown0 hN118.grw)
 have lt_B107_B122 := hN_gtl hN124 (k126).lt
 have k127 := (hN114.blk.grown0 hN118.grw)
 have lt_B112_B122 := hN_gtl hN124 (k127).lt
 have lt_B116_B122 := hN_gtl hN124 (hN118.blk).lt
 have hb128 := low0 hb121 hN124.grw
 refine wpo_storen (vs := [.int .i64 k, .int .i64 l.s, .int .i64 l.v, .int .i64 0, .int .i64 0, .slice (some ⟨B112, 0, none⟩) 0 0, .slice (some ⟨B116, 0, none⟩) 0 0, .int .i64 to]) (cs' := #[.int .i64 k, .int .i64 l.s, .int .i64 l.v, .int .i64 0, .int .i64 0, .slice (some ⟨B112, 0, none⟩) 0 0, .slice (some ⟨B116, 0, none⟩) 0 0, .int .i64 to]) rt_45 rfl rfl rfl (by simp [Value.oneCell']) hN124.blk (Nat.le_of_ble_eq_true rfl) rfl ?_
 intro w129 hS130
 have hb131 := low1 hb128 hS130.grw (by omega)
 refine wpo_nil ?_
 refine wpf_seq ?_
 refine wpf_seq_region ?_
 refine wpo_move (v := .int .i64 k) rfl rfl ?_
 refine wpo_call (vs := [.int .i64 k]) gf_66 (args_cons rfl args_nil) rfl (l3Slots_c k _) ?_
 rintro _ w132 ⟨rfl, hg133⟩
 have hb134 := low0 hb131 hg133
 refine wpo_nil ?_
 refine wpf_condf rfl hk ?_
 refine wpf_skip ?_
 refine thn_n ?_
 refine wpf_seq ?_
 refine wpf_seq_region ?_
 have k135 := (hS130.blk.grown0 hg133)
 refine wpo_loadn (vs := [.int .i64 k, .int .i64 l.s, .int .i64 l.v, .int .i64 0, .int .i64 0, .slice (some ⟨B112, 0, none⟩) 0 0, .slice (some ⟨B116, 0, none⟩) 0 0, .int .i64 to]) rt_45 rfl rfl (k135.rangeL 0 8 rfl) rfl ?_
 have k136 := (((k127.grown0 hN124.grw).grown hS130.grw (some_ne (by omega))).grown0 hg133)
 have k137 := (((hN118.blk.grown0 hN124.grw).grown hS130.grw (some_ne (by omega))).grown0 hg133)
 refine wpo_call (vs := [.agg #[.int .i64 k, .int .i64 l.s, .int .i64 l.v, .int .i64 0, .int .i64 0, .slice (some ⟨B112, 0, none⟩) 0 0, .slice (some ⟨B116, 0, none⟩) 0 0, .int .i64 to]]) gf_67 (args_cons rfl args_nil) rfl (sThingOk_c (⟨⟨k, l, 0, 0, [], [], to⟩, some ⟨B112, 0, none⟩, 0, some ⟨B116, 0, none⟩, 0⟩ : MTh) _ (rows_sl wide_rt k136) (rows_sl wide_int k137) (by first | omega | exact Nat.le_of_ble_eq_true rfl | (simp only [List.length_nil, List.length_cons, List.length_append, List.length_replicate]; omega)) (by first | omega | exact Nat.le_of_ble_eq_true rfl | (simp only [List.length_nil, List.length_cons, List.length_append, List.length_replicate]; omega))) ?_
 rintro _ w138 ⟨rfl, hg139⟩
 have hb140 := low0 hb134 hg139
 refine wpo_not (b' := !thingOk (⟨k, l, 0, 0, [], [], to⟩ : Th)) rfl rfl rfl ?_
 refine wpo_nil ?_
 refine wpf_condt rfl (not_of_f hlit) ?_
 refine wpf_seq_region ?_
 refine wpo_build (ps := []) (v := .agg #[.int .i64 0, .int .i64 0, .int .i64 0, .int .i64 0, .int .i64 0, .slice none 0 0, .slice none 0 0, .int .i64 0]) parts_nil (by kernel_rfl) rfl ?_
 have k141 := ((((k126.grown0 hN124.grw).grown hS130.grw (some_ne (by omega))).grown0 hg133).grown0 hg139)
 refine wpo_storen (vs := [.int .i64 0, .int .i64 0, .int .i64 0, .int .i64 0, .int .i64 0, .slice none 0 0, .slice none 0 0, .int .i64 0]) (cs' := #[.int .i64 0, .int .i64 0, .int .i64 0, .int .i64 0, .int .i64 0, .slice none 0 0, .slice none 0 0, .int .i64 0]) rt_45 rfl rfl rfl (by simp [Value.oneCell']) k141 (Nat.le_of_ble_eq_true rfl) rfl ?_
 intro w142 hS143
 have hb144 := low1 hb140 hS143.grw (by omega)
 refine wpo_assign (v := .bool false) rfl rfl ?_
 refine wpo_nil ?_
 refine wpf_ret ?_
 refine thn_r ?_
 refine ⟨.tuple #[.agg #[.int .i64 0, .int .i64 0, .int .i64 0, .int .i64 0, .int .i64 0, .slice none 0 0, .slice none 0 0, .int .i64 0], .bool false], resCT rfl (resCell_mk (vs := [.int .i64 0, .int .i64 0, .int .i64 0, .int .i64 0, .int .i64 0, .slice none 0 0, .slice none 0 0, .int .i64 0]) rt_45 rfl rfl (hS143.blk.rangeL 0 8 rfl)) rfl, rfl, hb144⟩
theorem gf_65 : goFn Try.prog 65 = true := by kernel_rfl
end Go.Proofs.Ytlkmdoebmklbbaa
