/- Walks, printed by a program of mine (gen.py) out of the functions. -/
import Derived.Test.YtlkmdoebmklbbaaA
namespace Go.Proofs.Ytlkmdoebmklbbaa
open Go.RowKit Go.Dw
set_option maxRecDepth 100000
set_option maxHeartbeats 4000000
set_option linter.unusedSimpArgs false
set_option linter.unusedVariables false
theorem fo_29_2 : fieldOff Try.prog 29 2 = some 2 := by kernel_rfl
theorem gf_100 : goFn Try.prog 100 = true := by kernel_rfl
theorem gf_105 : goFn Try.prog 105 = true := by kernel_rfl
theorem gf_54 : goFn Try.prog 54 = true := by kernel_rfl
theorem gf_85 : goFn Try.prog 85 = true := by kernel_rfl
theorem zt_29 : zeroTy Try.prog 29 = some (.agg #[.int .i64 0, .int .i64 0, .bool false, .bool false, .bool false]) := by kernel_rfl
theorem l6In_c (n lo hi : Int) (w : World) : CallsR Try.prog 85 #[.int .i64 n, .int .i64 lo, .int .i64 hi] w (fun v w' => v = .bool (inR n lo hi) ∧ w.grownBy w' none) := by
 refine calls_of_wpf (n := 15) Try.func85 rfl Try.ntmps85 rfl ?_
 have hb0 := World.grownBy.refl w none
 refine wpf_seq_region ?_
 refine wpo_assign (v := .bool false) rfl rfl ?_
 refine wpo_nil ?_
 refine wpf_seq_region_mid (fun f' w' => (f' 6 = .bool ((decide (lo ≤ n)) && (decide (n ≤ hi)))) ∧ w = w') ?_ ?_
 ·
  refine wpo_move (v := .int .i64 n) rfl rfl ?_
  refine wpo_move (v := .int .i64 lo) rfl rfl ?_
  refine wpo_geq (q := decide (lo ≤ n)) rfl rfl rfl rfl ?_
  refine wpo_move (v := .bool (decide (lo ≤ n))) rfl rfl ?_
  rcases bcases (decide (lo ≤ n)) with h145 | h145
  ·
   have h146 := of_decide_eq_true h145
   refine wpo_run rfl rfl rfl h145 ?_
   refine wpo_move (v := .int .i64 n) rfl rfl ?_
   refine wpo_run rfl rfl rfl h145 ?_
   refine wpo_move (v := .int .i64 hi) rfl rfl ?_
   refine wpo_run rfl rfl rfl h145 ?_
   refine wpo_leq (q := decide (n ≤ hi)) rfl rfl rfl rfl ?_
   refine wpo_pickt (v := .bool (decide (n ≤ hi))) rfl h145 rfl rfl ?_
   refine wpo_assign (v := .bool (decide (n ≤ hi))) rfl rfl ?_
   exact wpo_nil ⟨(congrArg Value.bool (by first | (simp only [h145, b0, b1, b2, b3, b4, b5, b6, b7, b8, b9]; done) | simp [h145])), rfl⟩
  ·
   have h147 := of_decide_eq_false h145
   iterate 3 refine wpo_pass rfl rfl rfl h145 rfl ?_
   refine wpo_pickf (v := .bool false) rfl h145 rfl rfl ?_
   refine wpo_assign (v := .bool false) rfl rfl ?_
   exact wpo_nil ⟨(congrArg Value.bool (by first | (simp only [h145, b0, b1, b2, b3, b4, b5, b6, b7, b8, b9]; done) | simp [h145])), rfl⟩
 ·
  rintro f148 w149 ⟨e150, rfl⟩
  refine wpf_ret ?_
  refine ⟨.bool ((decide (lo ≤ n)) && (decide (n ≤ hi))), res1 rfl e150, ?_, hb0⟩
  rfl

theorem inRange_c (n lo hi : Int) (w : World) : CallsR Try.prog 69 #[.int .i64 n, .int .i64 lo, .int .i64 hi] w (fun v w' => v = .bool (inR n lo hi) ∧ w.grownBy w' none) := by
 refine calls_of_wpf (n := 15) Try.func69 rfl Try.ntmps69 rfl ?_
 have hb0 := World.grownBy.refl w none
 refine wpf_seq_region ?_
 refine wpo_assign (v := .bool false) rfl rfl ?_
 refine wpo_nil ?_
 refine wpf_seq_region_mid (fun f' w' => (f' 6 = .bool ((decide (lo ≤ n)) && (decide (n ≤ hi)))) ∧ w = w') ?_ ?_
 ·
  refine wpo_move (v := .int .i64 lo) rfl rfl ?_
  refine wpo_move (v := .int .i64 n) rfl rfl ?_
  refine wpo_leq (q := decide (lo ≤ n)) rfl rfl rfl rfl ?_
  refine wpo_move (v := .bool (decide (lo ≤ n))) rfl rfl ?_
  rcases bcases (decide (lo ≤ n)) with h151 | h151
  ·
   have h152 := of_decide_eq_true h151
   refine wpo_run rfl rfl rfl h151 ?_
   refine wpo_move (v := .int .i64 n) rfl rfl ?_
   refine wpo_run rfl rfl rfl h151 ?_
   refine wpo_move (v := .int .i64 hi) rfl rfl ?_
   refine wpo_run rfl rfl rfl h151 ?_
   refine wpo_leq (q := decide (n ≤ hi)) rfl rfl rfl rfl ?_
   refine wpo_pickt (v := .bool (decide (n ≤ hi))) rfl h151 rfl rfl ?_
   refine wpo_assign (v := .bool (decide (n ≤ hi))) rfl rfl ?_
   exact wpo_nil ⟨(congrArg Value.bool (by first | (simp only [h151, b0, b1, b2, b3, b4, b5, b6, b7, b8, b9]; done) | simp [h151])), rfl⟩
  ·
   have h153 := of_decide_eq_false h151
   iterate 3 refine wpo_pass rfl rfl rfl h151 rfl ?_
   refine wpo_pickf (v := .bool false) rfl h151 rfl rfl ?_
   refine wpo_assign (v := .bool false) rfl rfl ?_
   exact wpo_nil ⟨(congrArg Value.bool (by first | (simp only [h151, b0, b1, b2, b3, b4, b5, b6, b7, b8, b9]; done) | simp [h151])), rfl⟩
 ·
  rintro f154 w155 ⟨e156, rfl⟩
  refine wpf_ret ?_
  refine ⟨.bool ((decide (lo ≤ n)) && (decide (n ≤ hi))), res1 rfl e156, ?_, hb0⟩
  rfl

theorem sLabelOk_c (l : Lab) (w : World) : CallsR Try.prog 35 #[.agg #[.int .i64 l.s, .int .i64 l.v]] w (fun v w' => v = .bool (labelOk l) ∧ w.grownBy w' none) := by
 refine calls_of_wpf (n := 11) Try.func35 rfl Try.ntmps35 rfl ?_
 have hb0 := World.grownBy.refl w none
 refine wpf_seq_region ?_
 refine wpo_box (v := .agg #[.int .i64 l.s, .int .i64 l.v]) (cs := #[.int .i64 l.s, .int .i64 l.v]) rfl rfl rfl ?_
 intro B157 w158 hN159
 have hlB157 := hN_ge hN159 hb0
 have hb160 := low0 hb0 hN159.grw
 refine wpo_assign (v := .bool false) rfl rfl ?_
 refine wpo_nil ?_
 refine wpf_seq_region_mid (fun f' w' => (f' 2 = .bool (inR l.s 0 3 && inR l.v 0 3)) ∧ w158.grownBy w' none) ?_ ?_
 ·
  refine wpo_fieldAddr (o' := 0) fo_40_0 rfl rfl rfl ?_
  refine wpo_load1 (v := .int .i64 l.s) ot_3 rfl (hN159.blk.cell rfl) rfl ?_
  refine wpo_call (vs := [.int .i64 l.s, .int .i64 0, .int .i64 3]) gf_85 (args_cons rfl (args_cons rfl (args_cons rfl args_nil))) rfl (l6In_c l.s 0 3 _) ?_
  rintro _ w171 ⟨rfl, hg172⟩
  have hb173 := low0 hb160 hg172
  refine wpo_move (v := .bool (inR l.s 0 3)) rfl rfl ?_
  rcases bcases (inR l.s 0 3) with h174 | h174
  ·
   refine wpo_run rfl rfl rfl h174 ?_
   refine wpo_fieldAddr (o' := 1) fo_40_1 rfl rfl rfl ?_
   refine wpo_run rfl rfl rfl h174 ?_
   have k175 := (hN159.blk.grown0 hg172)
   refine wpo_load1 (v := .int .i64 l.v) ot_3 rfl (k175.cell rfl) rfl ?_
   refine wpo_run rfl rfl rfl h174 ?_
   refine wpo_call (vs := [.int .i64 l.v, .int .i64 0, .int .i64 3]) gf_85 (args_cons rfl (args_cons rfl (args_cons rfl args_nil))) rfl (l6In_c l.v 0 3 _) ?_
   rintro _ w176 ⟨rfl, hg177⟩
   have hb178 := low0 hb173 hg177
   refine wpo_pickt (v := .bool (inR l.v 0 3)) rfl h174 rfl rfl ?_
   refine wpo_assign (v := .bool (inR l.v 0 3)) rfl rfl ?_
   exact wpo_nil ⟨(congrArg Value.bool (by first | (simp only [h174, b0, b1, b2, b3, b4, b5, b6, b7, b8, b9]; done) | simp [h174])), (grown_trans hg172 hg177)⟩
  ·
   iterate 3 refine wpo_pass rfl rfl rfl h174 rfl ?_
   refine wpo_pickf (v := .bool false) rfl h174 rfl rfl ?_
   refine wpo_assign (v := .bool false) rfl rfl ?_
   exact wpo_nil ⟨(congrArg Value.bool (by first | (simp only [h174, b0, b1, b2, b3, b4, b5, b6, b7, b8, b9]; done) | simp [h174])), hg172⟩
 ·
  rintro f179 w180 ⟨e181, hg182⟩
  have hb183 := low0 hb160 hg182
  refine wpf_ret ?_
  refine ⟨.bool (inR l.s 0 3 && inR l.v 0 3), res1 rfl e181, ?_, hb183⟩
  rfl

theorem l1In_c (a b : Int) (ha : 0 ≤ a ∧ a ≤ 3) (hb : 0 ≤ b ∧ b ≤ 3) (w : World) : CallsR Try.prog 105 #[.int .i64 a, .int .i64 b] w (fun v w' => v = .bool (l1In a b) ∧ w.grownBy w' none) := by
 refine calls_of_wpf (n := 17) Try.func105 rfl Try.ntmps105 rfl ?_
 have hb0 := World.grownBy.refl w none
 refine wpf_seq_region ?_
 refine wpo_assign (v := .bool false) rfl rfl ?_
 refine wpo_nil ?_
 refine wpf_seq_region_mid (fun f' w' => (f' 4 = .bool ((decide (a % 2 ≤ b % 2)) && (decide (a / 2 ≤ b / 2)))) ∧ w = w') ?_ ?_
 ·
  refine wpo_move (v := .int .i64 a) rfl rfl ?_
  refine wpo_rem (c := a % 2) rfl rfl (by omega) (by omega) (by omega) rfl rfl ?_
  refine wpo_move (v := .int .i64 b) rfl rfl ?_
  refine wpo_rem (c := b % 2) rfl rfl (by omega) (by omega) (by omega) rfl rfl ?_
  refine wpo_leq (q := decide (a % 2 ≤ b % 2)) rfl rfl rfl rfl ?_
  refine wpo_move (v := .bool (decide (a % 2 ≤ b % 2))) rfl rfl ?_
  rcases bcases (decide (a % 2 ≤ b % 2)) with h184 | h184
  ·
   have h185 := of_decide_eq_true h184
   refine wpo_run rfl rfl rfl h184 ?_
   refine wpo_move (v := .int .i64 a) rfl rfl ?_
   refine wpo_run rfl rfl rfl h184 ?_
   refine wpo_quo (c := a / 2) rfl rfl (by omega) (by omega) (by omega) rfl rfl ?_
   refine wpo_run rfl rfl rfl h184 ?_
   refine wpo_move (v := .int .i64 b) rfl rfl ?_
   refine wpo_run rfl rfl rfl h184 ?_
   refine wpo_quo (c := b / 2) rfl rfl (by omega) (by omega) (by omega) rfl rfl ?_
   refine wpo_run rfl rfl rfl h184 ?_
   refine wpo_leq (q := decide (a / 2 ≤ b / 2)) rfl rfl rfl rfl ?_
   refine wpo_pickt (v := .bool (decide (a / 2 ≤ b / 2))) rfl h184 rfl rfl ?_
   refine wpo_assign (v := .bool (decide (a / 2 ≤ b / 2))) rfl rfl ?_
   exact wpo_nil ⟨(congrArg Value.bool (by first | (simp only [h184, b0, b1, b2, b3, b4, b5, b6, b7, b8, b9]; done) | simp [h184])), rfl⟩
  ·
   have h186 := of_decide_eq_false h184
   iterate 5 refine wpo_pass rfl rfl rfl h184 rfl ?_
   refine wpo_pickf (v := .bool false) rfl h184 rfl rfl ?_
   refine wpo_assign (v := .bool false) rfl rfl ?_
   exact wpo_nil ⟨(congrArg Value.bool (by first | (simp only [h184, b0, b1, b2, b3, b4, b5, b6, b7, b8, b9]; done) | simp [h184])), rfl⟩
 ·
  rintro f187 w188 ⟨e189, rfl⟩
  refine wpf_ret ?_
  refine ⟨.bool ((decide (a % 2 ≤ b % 2)) && (decide (a / 2 ≤ b / 2))), res1 rfl e189, ?_, hb0⟩
  rfl

theorem l1Flow_c (a b : Lab) (hla : labelOk a = true) (hlb : labelOk b = true) (w : World) : CallsR Try.prog 86 #[.agg #[.int .i64 a.s, .int .i64 a.v], .agg #[.int .i64 b.s, .int .i64 b.v]] w (fun v w' => v = .bool (flow a b) ∧ w.grownBy w' none) := by
 refine calls_of_wpf (n := 17) Try.func86 rfl Try.ntmps86 rfl ?_
 have hb0 := World.grownBy.refl w none
 obtain ⟨⟨ha1, ha2⟩, ha3, ha4⟩ := (labelOk_iff a).1 hla
 obtain ⟨⟨hc1, hc2⟩, hc3, hc4⟩ := (labelOk_iff b).1 hlb
 refine wpf_seq_region ?_
 refine wpo_box (v := .agg #[.int .i64 a.s, .int .i64 a.v]) (cs := #[.int .i64 a.s, .int .i64 a.v]) rfl rfl rfl ?_
 intro B190 w191 hN192
 have hlB190 := hN_ge hN192 hb0
 have hb193 := low0 hb0 hN192.grw
 refine wpo_box (v := .agg #[.int .i64 b.s, .int .i64 b.v]) (cs := #[.int .i64 b.s, .int .i64 b.v]) rfl rfl rfl ?_
 intro B194 w195 hN196
 have hlB194 := hN_ge hN196 hb193
 have lt_B190_B194 := hN_gtl hN196 (hN192.blk).lt
 have hb197 := low0 hb193 hN196.grw
 refine wpo_assign (v := .bool false) rfl rfl ?_
 refine wpo_nil ?_
 refine wpf_seq_region_mid (fun f' w' => (f' 4 = .bool (l1In a.s b.s && l1In b.v a.v)) ∧ w195.grownBy w' none) ?_ ?_
 ·
  refine wpo_fieldAddr (o' := 0) fo_40_0 rfl rfl rfl ?_
  have k211 := (hN192.blk.grown0 hN196.grw)
  refine wpo_load1 (v := .int .i64 a.s) ot_3 rfl (k211.cell rfl) rfl ?_
  refine wpo_fieldAddr (o' := 0) fo_40_0 rfl rfl rfl ?_
  refine wpo_load1 (v := .int .i64 b.s) ot_3 rfl (hN196.blk.cell rfl) rfl ?_
  refine wpo_call (vs := [.int .i64 a.s, .int .i64 b.s]) gf_105 (args_cons rfl (args_cons rfl args_nil)) rfl (l1In_c a.s b.s (by omega) (by omega) _) ?_
  rintro _ w212 ⟨rfl, hg213⟩
  have hb214 := low0 hb197 hg213
  refine wpo_move (v := .bool (l1In a.s b.s)) rfl rfl ?_
  rcases bcases (l1In a.s b.s) with h215 | h215
  ·
   refine wpo_run rfl rfl rfl h215 ?_
   refine wpo_fieldAddr (o' := 1) fo_40_1 rfl rfl rfl ?_
   refine wpo_run rfl rfl rfl h215 ?_
   have k216 := (hN196.blk.grown0 hg213)
   refine wpo_load1 (v := .int .i64 b.v) ot_3 rfl (k216.cell rfl) rfl ?_
   refine wpo_run rfl rfl rfl h215 ?_
   refine wpo_fieldAddr (o' := 1) fo_40_1 rfl rfl rfl ?_
   refine wpo_run rfl rfl rfl h215 ?_
   have k217 := (k211.grown0 hg213)
   refine wpo_load1 (v := .int .i64 a.v) ot_3 rfl (k217.cell rfl) rfl ?_
   refine wpo_run rfl rfl rfl h215 ?_
   refine wpo_call (vs := [.int .i64 b.v, .int .i64 a.v]) gf_105 (args_cons rfl (args_cons rfl args_nil)) rfl (l1In_c b.v a.v (by omega) (by omega) _) ?_
   rintro _ w218 ⟨rfl, hg219⟩
   have hb220 := low0 hb214 hg219
   refine wpo_pickt (v := .bool (l1In b.v a.v)) rfl h215 rfl rfl ?_
   refine wpo_assign (v := .bool (l1In b.v a.v)) rfl rfl ?_
   exact wpo_nil ⟨(congrArg Value.bool (by first | (simp only [h215, b0, b1, b2, b3, b4, b5, b6, b7, b8, b9]; done) | simp [h215])), (grown_trans hg213 hg219)⟩
  ·
   iterate 5 refine wpo_pass rfl rfl rfl h215 rfl ?_
   refine wpo_pickf (v := .bool false) rfl h215 rfl rfl ?_
   refine wpo_assign (v := .bool false) rfl rfl ?_
   exact wpo_nil ⟨(congrArg Value.bool (by first | (simp only [h215, b0, b1, b2, b3, b4, b5, b6, b7, b8, b9]; done) | simp [h215])), hg213⟩
 ·
  rintro f221 w222 ⟨e223, hg224⟩
  have hb225 := low0 hb197 hg224
  refine wpf_ret ?_
  refine ⟨.bool (l1In a.s b.s && l1In b.v a.v), res1 rfl e223, ?_, hb225⟩
  rfl

theorem sRightOk_c (r : Rt) (w : World) : CallsR Try.prog 54 #[.agg #[.int .i64 r.th, .int .i64 r.ve, .bool r.rd, .bool r.wr, .bool r.wk]] w (fun v w' => v = .bool (rightOk r) ∧ w.grownBy w' none) := by
 refine calls_of_wpf (n := 26) Try.func54 rfl Try.ntmps54 rfl ?_
 have hb0 := World.grownBy.refl w none
 refine wpf_seq_region ?_
 refine wpo_box (v := .agg #[.int .i64 r.th, .int .i64 r.ve, .bool r.rd, .bool r.wr, .bool r.wk]) (cs := #[.int .i64 r.th, .int .i64 r.ve, .bool r.rd, .bool r.wr, .bool r.wk]) rfl rfl rfl ?_
 intro B226 w227 hN228
 have hlB226 := hN_ge hN228 hb0
 have hb229 := low0 hb0 hN228.grw
 refine wpo_assign (v := .bool false) rfl rfl ?_
 refine wpo_nil ?_
 refine wpf_seq ?_
 refine wpf_seq_region ?_
 refine wpo_fieldAddr (o' := 0) fo_29_0 rfl rfl rfl ?_
 refine wpo_load1 (v := .int .i64 r.th) ot_3 rfl (hN228.blk.cell rfl) rfl ?_
 refine wpo_eql (q := decide (r.th = 0)) rfl rfl rfl rfl ?_
 refine wpo_nil ?_
 refine wpf_cond rfl (fun h230 => ?_) (fun h230 => ?_)
 ·
  have h231 := of_decide_eq_true h230
  refine wpf_seq_region ?_
  refine wpo_loadn (vs := [.int .i64 r.th, .int .i64 r.ve, .bool r.rd, .bool r.wr, .bool r.wk]) rt_29 rfl rfl (hN228.blk.rangeL 0 5 rfl) rfl ?_
  refine wpo_build (ps := []) (v := .agg #[.int .i64 0, .int .i64 0, .bool false, .bool false, .bool false]) parts_nil (by kernel_rfl) rfl ?_
  refine wpo_eqs (q := decide (r = Rt.zero)) rfl rfl (eqG_29 _ _ r Rt.zero _) (eqV_29 r Rt.zero _) rfl rfl ?_
  refine wpo_assign (v := .bool (decide (r = Rt.zero))) rfl rfl ?_
  refine wpo_nil ?_
  refine wpf_ret ?_
  refine thn_r ?_
  refine ⟨.bool (decide (r = Rt.zero)), res1 rfl rfl, ?_, hb229⟩
  exact congrArg Value.bool (rightOk_z h230)
 ·
  have h232 := of_decide_eq_false h230
  refine wpf_skip ?_
  refine thn_n ?_
  refine wpf_seq_region_mid (fun f' w' => (f' 2 = .bool ((inR r.th 1 8 && inR r.ve 0 5) && (!(r.wk && r.wr)))) ∧ w227.grownBy w' none) ?_ ?_
  ·
   refine wpo_fieldAddr (o' := 0) fo_29_0 rfl rfl rfl ?_
   refine wpo_load1 (v := .int .i64 r.th) ot_3 rfl (hN228.blk.cell rfl) rfl ?_
   refine wpo_call (vs := [.int .i64 r.th, .int .i64 1, .int .i64 8]) gf_85 (args_cons rfl (args_cons rfl (args_cons rfl args_nil))) rfl (l6In_c r.th 1 8 _) ?_
   rintro _ w244 ⟨rfl, hg245⟩
   have hb246 := low0 hb229 hg245
   refine wpo_move (v := .bool (inR r.th 1 8)) rfl rfl ?_
   rcases bcases (inR r.th 1 8) with h247 | h247
   ·
    refine wpo_run rfl rfl rfl h247 ?_
    refine wpo_fieldAddr (o' := 1) fo_29_1 rfl rfl rfl ?_
    refine wpo_run rfl rfl rfl h247 ?_
    have k248 := (hN228.blk.grown0 hg245)
    refine wpo_load1 (v := .int .i64 r.ve) ot_3 rfl (k248.cell rfl) rfl ?_
    refine wpo_run rfl rfl rfl h247 ?_
    refine wpo_call (vs := [.int .i64 r.ve, .int .i64 0, .int .i64 5]) gf_85 (args_cons rfl (args_cons rfl (args_cons rfl args_nil))) rfl (l6In_c r.ve 0 5 _) ?_
    rintro _ w249 ⟨rfl, hg250⟩
    have hb251 := low0 hb246 hg250
    refine wpo_pickt (v := .bool (inR r.ve 0 5)) rfl h247 rfl rfl ?_
    refine wpo_move (v := .bool (inR r.ve 0 5)) rfl rfl ?_
    rcases bcases (inR r.ve 0 5) with h252 | h252
    ·
     refine wpo_run rfl rfl rfl h252 ?_
     refine wpo_fieldAddr (o' := 4) fo_29_4 rfl rfl rfl ?_
     refine wpo_run rfl rfl rfl h252 ?_
     have k253 := (k248.grown0 hg250)
     refine wpo_load1 (v := .bool r.wk) ot_4 rfl (k253.cell rfl) rfl ?_
     refine wpo_run rfl rfl rfl h252 ?_
     refine wpo_move (v := .bool r.wk) rfl rfl ?_
     rcases bcases (r.wk) with h254 | h254
     ·
      refine wpo_run rfl rfl rfl h254 ?_
      refine wpo_fieldAddr (o' := 3) fo_29_3 rfl rfl rfl ?_
      refine wpo_run rfl rfl rfl h254 ?_
      refine wpo_load1 (v := .bool r.wr) ot_4 rfl (k253.cell rfl) rfl ?_
      refine wpo_run rfl rfl rfl h252 ?_
      refine wpo_pickt (v := .bool r.wr) rfl h254 rfl rfl ?_
      refine wpo_run rfl rfl rfl h252 ?_
      refine wpo_not (b' := !r.wr) rfl rfl rfl ?_
      refine wpo_pickt (v := .bool (!r.wr)) rfl h252 rfl rfl ?_
      refine wpo_assign (v := .bool (!r.wr)) rfl rfl ?_
      exact wpo_nil ⟨(congrArg Value.bool (by first | (simp only [h230, h247, h252, h254, b0, b1, b2, b3, b4, b5, b6, b7, b8, b9]; done) | simp [h230, h247, h252, h254])), (grown_trans hg245 hg250)⟩
     ·
      refine wpo_pass rfl rfl rfl h254 rfl ?_
      refine wpo_pass rfl rfl rfl h254 rfl ?_
      refine wpo_run rfl rfl rfl h252 ?_
      refine wpo_pickf (v := .bool false) rfl h254 rfl rfl ?_
      refine wpo_run rfl rfl rfl h252 ?_
      refine wpo_not (b' := true) rfl rfl rfl ?_
      refine wpo_pickt (v := .bool true) rfl h252 rfl rfl ?_
      refine wpo_assign (v := .bool true) rfl rfl ?_
      exact wpo_nil ⟨(congrArg Value.bool (by first | (simp only [h230, h247, h252, h254, b0, b1, b2, b3, b4, b5, b6, b7, b8, b9]; done) | simp [h230, h247, h252, h254])), (grown_trans hg245 hg250)⟩
    ·
     iterate 3 refine wpo_pass rfl rfl rfl h252 rfl ?_
     refine wpo_passu rfl rfl rfl rfl ?_
     refine wpo_passu rfl rfl rfl rfl ?_
     refine wpo_pass rfl rfl rfl h252 rfl ?_
     refine wpo_pass rfl rfl rfl h252 rfl ?_
     refine wpo_pickf (v := .bool false) rfl h252 rfl rfl ?_
     refine wpo_assign (v := .bool false) rfl rfl ?_
     exact wpo_nil ⟨(congrArg Value.bool (by first | (simp only [h230, h247, h252, b0, b1, b2, b3, b4, b5, b6, b7, b8, b9]; done) | simp [h230, h247, h252])), (grown_trans hg245 hg250)⟩
   ·
    iterate 3 refine wpo_pass rfl rfl rfl h247 rfl ?_
    refine wpo_pickf (v := .bool false) rfl h247 rfl rfl ?_
    refine wpo_move (v := .bool false) rfl rfl ?_
    iterate 3 refine wpo_pass rfl rfl rfl rfl rfl ?_
    refine wpo_passu rfl rfl rfl rfl ?_
    refine wpo_passu rfl rfl rfl rfl ?_
    refine wpo_pass rfl rfl rfl rfl rfl ?_
    refine wpo_pass rfl rfl rfl rfl rfl ?_
    refine wpo_pickf (v := .bool false) rfl rfl rfl rfl ?_
    refine wpo_assign (v := .bool false) rfl rfl ?_
    exact wpo_nil ⟨(congrArg Value.bool (by first | (simp only [h230, h247, b0, b1, b2, b3, b4, b5, b6, b7, b8, b9]; done) | simp [h230, h247])), hg245⟩
  ·
   rintro f255 w256 ⟨e257, hg258⟩
   have hb259 := low0 hb229 hg258
   refine wpf_ret ?_
   refine ⟨.bool ((inR r.th 1 8 && inR r.ve 0 5) && (!(r.wk && r.wr))), res1 rfl e257, ?_, hb259⟩
   exact congrArg Value.bool (rightOk_n h230)

theorem l2In_c (a b : Rt) (w : World) : CallsR Try.prog 98 #[.agg #[.int .i64 a.th, .int .i64 a.ve, .bool a.rd, .bool a.wr, .bool a.wk], .agg #[.int .i64 b.th, .int .i64 b.ve, .bool b.rd, .bool b.wr, .bool b.wk]] w (fun v w' => v = .bool (l2In a b) ∧ w.grownBy w' none) := by
 refine calls_of_wpf (n := 49) Try.func98 rfl Try.ntmps98 rfl ?_
 have hb0 := World.grownBy.refl w none
 refine wpf_seq_region ?_
 refine wpo_box (v := .agg #[.int .i64 a.th, .int .i64 a.ve, .bool a.rd, .bool a.wr, .bool a.wk]) (cs := #[.int .i64 a.th, .int .i64 a.ve, .bool a.rd, .bool a.wr, .bool a.wk]) rfl rfl rfl ?_
 intro B260 w261 hN262
 have hlB260 := hN_ge hN262 hb0
 have hb263 := low0 hb0 hN262.grw
 refine wpo_box (v := .agg #[.int .i64 b.th, .int .i64 b.ve, .bool b.rd, .bool b.wr, .bool b.wk]) (cs := #[.int .i64 b.th, .int .i64 b.ve, .bool b.rd, .bool b.wr, .bool b.wk]) rfl rfl rfl ?_
 intro B264 w265 hN266
 have hlB264 := hN_ge hN266 hb263
 have lt_B260_B264 := hN_gtl hN266 (hN262.blk).lt
 have hb267 := low0 hb263 hN266.grw
 refine wpo_assign (v := .bool false) rfl rfl ?_
 refine wpo_nil ?_
 refine wpf_seq_region_mid (fun f' w' => (f' 4 = .bool ((decide (a.th = 0)) || (((((decide (a.th = b.th)) && (decide (a.ve = b.ve))) && ((!a.rd) || b.rd)) && ((!a.wr) || b.wr)) && (a.wk || (!b.wk))))) ∧ w265 = w') ?_ ?_
 ·
  refine wpo_fieldAddr (o' := 0) fo_29_0 rfl rfl rfl ?_
  have k270 := (hN262.blk.grown0 hN266.grw)
  refine wpo_load1 (v := .int .i64 a.th) ot_3 rfl (k270.cell rfl) rfl ?_
  refine wpo_eql (q := decide (a.th = 0)) rfl rfl rfl rfl ?_
  refine wpo_move (v := .bool (decide (a.th = 0))) rfl rfl ?_
  rcases bcases (decide (a.th = 0)) with h271 | h271
  ·
   have h272 := of_decide_eq_true h271
   iterate 6 refine wpo_pass rfl rfl rfl h271 rfl ?_
   iterate 5 refine wpo_passu rfl rfl rfl rfl ?_
   refine wpo_pass rfl rfl rfl h271 rfl ?_
   refine wpo_pass rfl rfl rfl h271 rfl ?_
   iterate 7 refine wpo_passu rfl rfl rfl rfl ?_
   refine wpo_pass rfl rfl rfl h271 rfl ?_
   refine wpo_pass rfl rfl rfl h271 rfl ?_
   iterate 7 refine wpo_passu rfl rfl rfl rfl ?_
   refine wpo_pass rfl rfl rfl h271 rfl ?_
   refine wpo_pass rfl rfl rfl h271 rfl ?_
   iterate 7 refine wpo_passu rfl rfl rfl rfl ?_
   refine wpo_pass rfl rfl rfl h271 rfl ?_
   refine wpo_pickt (v := .bool true) rfl h271 rfl rfl ?_
   refine wpo_assign (v := .bool true) rfl rfl ?_
   exact wpo_nil ⟨(congrArg Value.bool (by first | (simp only [h271, b0, b1, b2, b3, b4, b5, b6, b7, b8, b9]; done) | simp [h271])), rfl⟩
  ·
   have h273 := of_decide_eq_false h271
   refine wpo_run rfl rfl rfl h271 ?_
   refine wpo_fieldAddr (o' := 0) fo_29_0 rfl rfl rfl ?_
   refine wpo_run rfl rfl rfl h271 ?_
   refine wpo_load1 (v := .int .i64 a.th) ot_3 rfl (k270.cell rfl) rfl ?_
   refine wpo_run rfl rfl rfl h271 ?_
   refine wpo_fieldAddr (o' := 0) fo_29_0 rfl rfl rfl ?_
   refine wpo_run rfl rfl rfl h271 ?_
   refine wpo_load1 (v := .int .i64 b.th) ot_3 rfl (hN266.blk.cell rfl) rfl ?_
   refine wpo_run rfl rfl rfl h271 ?_
   refine wpo_eql (q := decide (a.th = b.th)) rfl rfl rfl rfl ?_
   refine wpo_run rfl rfl rfl h271 ?_
   refine wpo_move (v := .bool (decide (a.th = b.th))) rfl rfl ?_
   rcases bcases (decide (a.th = b.th)) with h274 | h274
   ·
    have h275 := of_decide_eq_true h274
    refine wpo_run rfl rfl rfl h274 ?_
    refine wpo_fieldAddr (o' := 1) fo_29_1 rfl rfl rfl ?_
    refine wpo_run rfl rfl rfl h274 ?_
    refine wpo_load1 (v := .int .i64 a.ve) ot_3 rfl (k270.cell rfl) rfl ?_
    refine wpo_run rfl rfl rfl h274 ?_
    refine wpo_fieldAddr (o' := 1) fo_29_1 rfl rfl rfl ?_
    refine wpo_run rfl rfl rfl h274 ?_
    refine wpo_load1 (v := .int .i64 b.ve) ot_3 rfl (hN266.blk.cell rfl) rfl ?_
    refine wpo_run rfl rfl rfl h274 ?_
    refine wpo_eql (q := decide (a.ve = b.ve)) rfl rfl rfl rfl ?_
    refine wpo_run rfl rfl rfl h271 ?_
    refine wpo_pickt (v := .bool (decide (a.ve = b.ve))) rfl h274 rfl rfl ?_
    refine wpo_run rfl rfl rfl h271 ?_
    refine wpo_move (v := .bool (decide (a.ve = b.ve))) rfl rfl ?_
    rcases bcases (decide (a.ve = b.ve)) with h276 | h276
    ·
     have h277 := of_decide_eq_true h276
     refine wpo_run rfl rfl rfl h276 ?_
     refine wpo_fieldAddr (o' := 2) fo_29_2 rfl rfl rfl ?_
     refine wpo_run rfl rfl rfl h276 ?_
     refine wpo_load1 (v := .bool a.rd) ot_4 rfl (k270.cell rfl) rfl ?_
     refine wpo_run rfl rfl rfl h276 ?_
     refine wpo_not (b' := !a.rd) rfl rfl rfl ?_
     refine wpo_run rfl rfl rfl h276 ?_
     refine wpo_move (v := .bool (!a.rd)) rfl rfl ?_
     rcases bcases (!a.rd) with h278 | h278
     ·
      have h279 := nt_t h278
      refine wpo_pass rfl rfl rfl h278 rfl ?_
      refine wpo_pass rfl rfl rfl h278 rfl ?_
      refine wpo_run rfl rfl rfl h276 ?_
      refine wpo_pickt (v := .bool true) rfl h278 rfl rfl ?_
      refine wpo_run rfl rfl rfl h271 ?_
      refine wpo_pickt (v := .bool true) rfl h276 rfl rfl ?_
      refine wpo_run rfl rfl rfl h271 ?_
      refine wpo_move (v := .bool true) rfl rfl ?_
      refine wpo_run rfl rfl rfl rfl ?_
      refine wpo_fieldAddr (o' := 3) fo_29_3 rfl rfl rfl ?_
      refine wpo_run rfl rfl rfl rfl ?_
      refine wpo_load1 (v := .bool a.wr) ot_4 rfl (k270.cell rfl) rfl ?_
      refine wpo_run rfl rfl rfl rfl ?_
      refine wpo_not (b' := !a.wr) rfl rfl rfl ?_
      refine wpo_run rfl rfl rfl rfl ?_
      refine wpo_move (v := .bool (!a.wr)) rfl rfl ?_
      rcases bcases (!a.wr) with h280 | h280
      ·
       have h281 := nt_t h280
       refine wpo_pass rfl rfl rfl h280 rfl ?_
       refine wpo_pass rfl rfl rfl h280 rfl ?_
       refine wpo_run rfl rfl rfl rfl ?_
       refine wpo_pickt (v := .bool true) rfl h280 rfl rfl ?_
       refine wpo_run rfl rfl rfl h271 ?_
       refine wpo_pickt (v := .bool true) rfl rfl rfl rfl ?_
       refine wpo_run rfl rfl rfl h271 ?_
       refine wpo_move (v := .bool true) rfl rfl ?_
       refine wpo_run rfl rfl rfl rfl ?_
       refine wpo_fieldAddr (o' := 4) fo_29_4 rfl rfl rfl ?_
       refine wpo_run rfl rfl rfl rfl ?_
       refine wpo_load1 (v := .bool a.wk) ot_4 rfl (k270.cell rfl) rfl ?_
       refine wpo_run rfl rfl rfl rfl ?_
       refine wpo_move (v := .bool a.wk) rfl rfl ?_
       rcases bcases (a.wk) with h282 | h282
       ·
        iterate 3 refine wpo_pass rfl rfl rfl h282 rfl ?_
        refine wpo_run rfl rfl rfl rfl ?_
        refine wpo_pickt (v := .bool true) rfl h282 rfl rfl ?_
        refine wpo_run rfl rfl rfl h271 ?_
        refine wpo_pickt (v := .bool true) rfl rfl rfl rfl ?_
        refine wpo_pickf (v := .bool true) rfl h271 rfl rfl ?_
        refine wpo_assign (v := .bool true) rfl rfl ?_
        exact wpo_nil ⟨(congrArg Value.bool (by first | (simp only [h271, h274, h276, h278, h279, h280, h281, h282, b0, b1, b2, b3, b4, b5, b6, b7, b8, b9]; done) | simp [h271, h274, h276, h278, h279, h280, h281, h282])), rfl⟩
       ·
        refine wpo_run rfl rfl rfl h282 ?_
        refine wpo_fieldAddr (o' := 4) fo_29_4 rfl rfl rfl ?_
        refine wpo_run rfl rfl rfl h282 ?_
        refine wpo_load1 (v := .bool b.wk) ot_4 rfl (hN266.blk.cell rfl) rfl ?_
        refine wpo_run rfl rfl rfl h282 ?_
        refine wpo_not (b' := !b.wk) rfl rfl rfl ?_
        refine wpo_run rfl rfl rfl rfl ?_
        refine wpo_pickf (v := .bool (!b.wk)) rfl h282 rfl rfl ?_
        refine wpo_run rfl rfl rfl h271 ?_
        refine wpo_pickt (v := .bool (!b.wk)) rfl rfl rfl rfl ?_
        refine wpo_pickf (v := .bool (!b.wk)) rfl h271 rfl rfl ?_
        refine wpo_assign (v := .bool (!b.wk)) rfl rfl ?_
        exact wpo_nil ⟨(congrArg Value.bool (by first | (simp only [h271, h274, h276, h278, h279, h280, h281, h282, b0, b1, b2, b3, b4, b5, b6, b7, b8, b9]; done) | simp [h271, h274, h276, h278, h279, h280, h281, h282])), rfl⟩
      ·
       have h283 := nt_f h280
       refine wpo_run rfl rfl rfl h280 ?_
       refine wpo_fieldAddr (o' := 3) fo_29_3 rfl rfl rfl ?_
       refine wpo_run rfl rfl rfl h280 ?_
       refine wpo_load1 (v := .bool b.wr) ot_4 rfl (hN266.blk.cell rfl) rfl ?_
       refine wpo_run rfl rfl rfl rfl ?_
       refine wpo_pickf (v := .bool b.wr) rfl h280 rfl rfl ?_
       refine wpo_run rfl rfl rfl h271 ?_
       refine wpo_pickt (v := .bool b.wr) rfl rfl rfl rfl ?_
       refine wpo_run rfl rfl rfl h271 ?_
       refine wpo_move (v := .bool b.wr) rfl rfl ?_
       rcases bcases (b.wr) with h284 | h284
       ·
        refine wpo_run rfl rfl rfl h284 ?_
        refine wpo_fieldAddr (o' := 4) fo_29_4 rfl rfl rfl ?_
        refine wpo_run rfl rfl rfl h284 ?_
        refine wpo_load1 (v := .bool a.wk) ot_4 rfl (k270.cell rfl) rfl ?_
        refine wpo_run rfl rfl rfl h284 ?_
        refine wpo_move (v := .bool a.wk) rfl rfl ?_
        rcases bcases (a.wk) with h285 | h285
        ·
         iterate 3 refine wpo_pass rfl rfl rfl h285 rfl ?_
         refine wpo_run rfl rfl rfl h284 ?_
         refine wpo_pickt (v := .bool true) rfl h285 rfl rfl ?_
         refine wpo_run rfl rfl rfl h271 ?_
         refine wpo_pickt (v := .bool true) rfl h284 rfl rfl ?_
         refine wpo_pickf (v := .bool true) rfl h271 rfl rfl ?_
         refine wpo_assign (v := .bool true) rfl rfl ?_
         exact wpo_nil ⟨(congrArg Value.bool (by first | (simp only [h271, h274, h276, h278, h279, h280, h283, h284, h285, b0, b1, b2, b3, b4, b5, b6, b7, b8, b9]; done) | simp [h271, h274, h276, h278, h279, h280, h283, h284, h285])), rfl⟩
        ·
         refine wpo_run rfl rfl rfl h285 ?_
         refine wpo_fieldAddr (o' := 4) fo_29_4 rfl rfl rfl ?_
         refine wpo_run rfl rfl rfl h285 ?_
         refine wpo_load1 (v := .bool b.wk) ot_4 rfl (hN266.blk.cell rfl) rfl ?_
         refine wpo_run rfl rfl rfl h285 ?_
         refine wpo_not (b' := !b.wk) rfl rfl rfl ?_
         refine wpo_run rfl rfl rfl h284 ?_
         refine wpo_pickf (v := .bool (!b.wk)) rfl h285 rfl rfl ?_
         refine wpo_run rfl rfl rfl h271 ?_
         refine wpo_pickt (v := .bool (!b.wk)) rfl h284 rfl rfl ?_
         refine wpo_pickf (v := .bool (!b.wk)) rfl h271 rfl rfl ?_
         refine wpo_assign (v := .bool (!b.wk)) rfl rfl ?_
         exact wpo_nil ⟨(congrArg Value.bool (by first | (simp only [h271, h274, h276, h278, h279, h280, h283, h284, h285, b0, b1, b2, b3, b4, b5, b6, b7, b8, b9]; done) | simp [h271, h274, h276, h278, h279, h280, h283, h284, h285])), rfl⟩
       ·
        iterate 3 refine wpo_pass rfl rfl rfl h284 rfl ?_
        iterate 3 refine wpo_passu rfl rfl rfl rfl ?_
        refine wpo_pass rfl rfl rfl h284 rfl ?_
        refine wpo_run rfl rfl rfl h271 ?_
        refine wpo_pickf (v := .bool false) rfl h284 rfl rfl ?_
        refine wpo_pickf (v := .bool false) rfl h271 rfl rfl ?_
        refine wpo_assign (v := .bool false) rfl rfl ?_
        exact wpo_nil ⟨(congrArg Value.bool (by first | (simp only [h271, h274, h276, h278, h279, h280, h283, h284, b0, b1, b2, b3, b4, b5, b6, b7, b8, b9]; done) | simp [h271, h274, h276, h278, h279, h280, h283, h284])), rfl⟩
     ·
      have h286 := nt_f h278
      refine wpo_run rfl rfl rfl h278 ?_
      refine wpo_fieldAddr (o' := 2) fo_29_2 rfl rfl rfl ?_
      refine wpo_run rfl rfl rfl h278 ?_
      refine wpo_load1 (v := .bool b.rd) ot_4 rfl (hN266.blk.cell rfl) rfl ?_
      refine wpo_run rfl rfl rfl h276 ?_
      refine wpo_pickf (v := .bool b.rd) rfl h278 rfl rfl ?_
      refine wpo_run rfl rfl rfl h271 ?_
      refine wpo_pickt (v := .bool b.rd) rfl h276 rfl rfl ?_
      refine wpo_run rfl rfl rfl h271 ?_
      refine wpo_move (v := .bool b.rd) rfl rfl ?_
      rcases bcases (b.rd) with h287 | h287
      ·
       refine wpo_run rfl rfl rfl h287 ?_
       refine wpo_fieldAddr (o' := 3) fo_29_3 rfl rfl rfl ?_
       refine wpo_run rfl rfl rfl h287 ?_
       refine wpo_load1 (v := .bool a.wr) ot_4 rfl (k270.cell rfl) rfl ?_
       refine wpo_run rfl rfl rfl h287 ?_
       refine wpo_not (b' := !a.wr) rfl rfl rfl ?_
       refine wpo_run rfl rfl rfl h287 ?_
       refine wpo_move (v := .bool (!a.wr)) rfl rfl ?_
       rcases bcases (!a.wr) with h288 | h288
       ·
        have h289 := nt_t h288
        refine wpo_pass rfl rfl rfl h288 rfl ?_
        refine wpo_pass rfl rfl rfl h288 rfl ?_
        refine wpo_run rfl rfl rfl h287 ?_
        refine wpo_pickt (v := .bool true) rfl h288 rfl rfl ?_
        refine wpo_run rfl rfl rfl h271 ?_
        refine wpo_pickt (v := .bool true) rfl h287 rfl rfl ?_
        refine wpo_run rfl rfl rfl h271 ?_
        refine wpo_move (v := .bool true) rfl rfl ?_
        refine wpo_run rfl rfl rfl rfl ?_
        refine wpo_fieldAddr (o' := 4) fo_29_4 rfl rfl rfl ?_
        refine wpo_run rfl rfl rfl rfl ?_
        refine wpo_load1 (v := .bool a.wk) ot_4 rfl (k270.cell rfl) rfl ?_
        refine wpo_run rfl rfl rfl rfl ?_
        refine wpo_move (v := .bool a.wk) rfl rfl ?_
        rcases bcases (a.wk) with h290 | h290
        ·
         iterate 3 refine wpo_pass rfl rfl rfl h290 rfl ?_
         refine wpo_run rfl rfl rfl rfl ?_
         refine wpo_pickt (v := .bool true) rfl h290 rfl rfl ?_
         refine wpo_run rfl rfl rfl h271 ?_
         refine wpo_pickt (v := .bool true) rfl rfl rfl rfl ?_
         refine wpo_pickf (v := .bool true) rfl h271 rfl rfl ?_
         refine wpo_assign (v := .bool true) rfl rfl ?_
         exact wpo_nil ⟨(congrArg Value.bool (by first | (simp only [h271, h274, h276, h278, h286, h287, h288, h289, h290, b0, b1, b2, b3, b4, b5, b6, b7, b8, b9]; done) | simp [h271, h274, h276, h278, h286, h287, h288, h289, h290])), rfl⟩
        ·
         refine wpo_run rfl rfl rfl h290 ?_
         refine wpo_fieldAddr (o' := 4) fo_29_4 rfl rfl rfl ?_
         refine wpo_run rfl rfl rfl h290 ?_
         refine wpo_load1 (v := .bool b.wk) ot_4 rfl (hN266.blk.cell rfl) rfl ?_
         refine wpo_run rfl rfl rfl h290 ?_
         refine wpo_not (b' := !b.wk) rfl rfl rfl ?_
         refine wpo_run rfl rfl rfl rfl ?_
         refine wpo_pickf (v := .bool (!b.wk)) rfl h290 rfl rfl ?_
         refine wpo_run rfl rfl rfl h271 ?_
         refine wpo_pickt (v := .bool (!b.wk)) rfl rfl rfl rfl ?_
         refine wpo_pickf (v := .bool (!b.wk)) rfl h271 rfl rfl ?_
         refine wpo_assign (v := .bool (!b.wk)) rfl rfl ?_
         exact wpo_nil ⟨(congrArg Value.bool (by first | (simp only [h271, h274, h276, h278, h286, h287, h288, h289, h290, b0, b1, b2, b3, b4, b5, b6, b7, b8, b9]; done) | simp [h271, h274, h276, h278, h286, h287, h288, h289, h290])), rfl⟩
       ·
        have h291 := nt_f h288
        refine wpo_run rfl rfl rfl h288 ?_
        refine wpo_fieldAddr (o' := 3) fo_29_3 rfl rfl rfl ?_
        refine wpo_run rfl rfl rfl h288 ?_
        refine wpo_load1 (v := .bool b.wr) ot_4 rfl (hN266.blk.cell rfl) rfl ?_
        refine wpo_run rfl rfl rfl h287 ?_
        refine wpo_pickf (v := .bool b.wr) rfl h288 rfl rfl ?_
        refine wpo_run rfl rfl rfl h271 ?_
        refine wpo_pickt (v := .bool b.wr) rfl h287 rfl rfl ?_
        refine wpo_run rfl rfl rfl h271 ?_
        refine wpo_move (v := .bool b.wr) rfl rfl ?_
        rcases bcases (b.wr) with h292 | h292
        ·
         refine wpo_run rfl rfl rfl h292 ?_
         refine wpo_fieldAddr (o' := 4) fo_29_4 rfl rfl rfl ?_
         refine wpo_run rfl rfl rfl h292 ?_
         refine wpo_load1 (v := .bool a.wk) ot_4 rfl (k270.cell rfl) rfl ?_
         refine wpo_run rfl rfl rfl h292 ?_
         refine wpo_move (v := .bool a.wk) rfl rfl ?_
         rcases bcases (a.wk) with h293 | h293
         ·
          iterate 3 refine wpo_pass rfl rfl rfl h293 rfl ?_
          refine wpo_run rfl rfl rfl h292 ?_
          refine wpo_pickt (v := .bool true) rfl h293 rfl rfl ?_
          refine wpo_run rfl rfl rfl h271 ?_
          refine wpo_pickt (v := .bool true) rfl h292 rfl rfl ?_
          refine wpo_pickf (v := .bool true) rfl h271 rfl rfl ?_
          refine wpo_assign (v := .bool true) rfl rfl ?_
          exact wpo_nil ⟨(congrArg Value.bool (by first | (simp only [h271, h274, h276, h278, h286, h287, h288, h291, h292, h293, b0, b1, b2, b3, b4, b5, b6, b7, b8, b9]; done) | simp [h271, h274, h276, h278, h286, h287, h288, h291, h292, h293])), rfl⟩
         ·
          refine wpo_run rfl rfl rfl h293 ?_
          refine wpo_fieldAddr (o' := 4) fo_29_4 rfl rfl rfl ?_
          refine wpo_run rfl rfl rfl h293 ?_
          refine wpo_load1 (v := .bool b.wk) ot_4 rfl (hN266.blk.cell rfl) rfl ?_
          refine wpo_run rfl rfl rfl h293 ?_
          refine wpo_not (b' := !b.wk) rfl rfl rfl ?_
          refine wpo_run rfl rfl rfl h292 ?_
          refine wpo_pickf (v := .bool (!b.wk)) rfl h293 rfl rfl ?_
          refine wpo_run rfl rfl rfl h271 ?_
          refine wpo_pickt (v := .bool (!b.wk)) rfl h292 rfl rfl ?_
          refine wpo_pickf (v := .bool (!b.wk)) rfl h271 rfl rfl ?_
          refine wpo_assign (v := .bool (!b.wk)) rfl rfl ?_
          exact wpo_nil ⟨(congrArg Value.bool (by first | (simp only [h271, h274, h276, h278, h286, h287, h288, h291, h292, h293, b0, b1, b2, b3, b4, b5, b6, b7, b8, b9]; done) | simp [h271, h274, h276, h278, h286, h287, h288, h291, h292, h293])), rfl⟩
        ·
         iterate 3 refine wpo_pass rfl rfl rfl h292 rfl ?_
         iterate 3 refine wpo_passu rfl rfl rfl rfl ?_
         refine wpo_pass rfl rfl rfl h292 rfl ?_
         refine wpo_run rfl rfl rfl h271 ?_
         refine wpo_pickf (v := .bool false) rfl h292 rfl rfl ?_
         refine wpo_pickf (v := .bool false) rfl h271 rfl rfl ?_
         refine wpo_assign (v := .bool false) rfl rfl ?_
         exact wpo_nil ⟨(congrArg Value.bool (by first | (simp only [h271, h274, h276, h278, h286, h287, h288, h291, h292, b0, b1, b2, b3, b4, b5, b6, b7, b8, b9]; done) | simp [h271, h274, h276, h278, h286, h287, h288, h291, h292])), rfl⟩
      ·
       iterate 4 refine wpo_pass rfl rfl rfl h287 rfl ?_
       refine wpo_passu rfl rfl rfl rfl ?_
       refine wpo_passu rfl rfl rfl rfl ?_
       refine wpo_pass rfl rfl rfl h287 rfl ?_
       refine wpo_run rfl rfl rfl h271 ?_
       refine wpo_pickf (v := .bool false) rfl h287 rfl rfl ?_
       refine wpo_run rfl rfl rfl h271 ?_
       refine wpo_move (v := .bool false) rfl rfl ?_
       iterate 3 refine wpo_pass rfl rfl rfl rfl rfl ?_
       iterate 3 refine wpo_passu rfl rfl rfl rfl ?_
       refine wpo_pass rfl rfl rfl rfl rfl ?_
       refine wpo_run rfl rfl rfl h271 ?_
       refine wpo_pickf (v := .bool false) rfl rfl rfl rfl ?_
       refine wpo_pickf (v := .bool false) rfl h271 rfl rfl ?_
       refine wpo_assign (v := .bool false) rfl rfl ?_
       exact wpo_nil ⟨(congrArg Value.bool (by first | (simp only [h271, h274, h276, h278, h286, h287, b0, b1, b2, b3, b4, b5, b6, b7, b8, b9]; done) | simp [h271, h274, h276, h278, h286, h287])), rfl⟩
    ·
     have h294 := of_decide_eq_false h276
     iterate 4 refine wpo_pass rfl rfl rfl h276 rfl ?_
     refine wpo_passu rfl rfl rfl rfl ?_
     refine wpo_passu rfl rfl rfl rfl ?_
     refine wpo_pass rfl rfl rfl h276 rfl ?_
     refine wpo_run rfl rfl rfl h271 ?_
     refine wpo_pickf (v := .bool false) rfl h276 rfl rfl ?_
     refine wpo_run rfl rfl rfl h271 ?_
     refine wpo_move (v := .bool false) rfl rfl ?_
     iterate 4 refine wpo_pass rfl rfl rfl rfl rfl ?_
     refine wpo_passu rfl rfl rfl rfl ?_
     refine wpo_passu rfl rfl rfl rfl ?_
     refine wpo_pass rfl rfl rfl rfl rfl ?_
     refine wpo_run rfl rfl rfl h271 ?_
     refine wpo_pickf (v := .bool false) rfl rfl rfl rfl ?_
     refine wpo_run rfl rfl rfl h271 ?_
     refine wpo_move (v := .bool false) rfl rfl ?_
     iterate 3 refine wpo_pass rfl rfl rfl rfl rfl ?_
     iterate 3 refine wpo_passu rfl rfl rfl rfl ?_
     refine wpo_pass rfl rfl rfl rfl rfl ?_
     refine wpo_run rfl rfl rfl h271 ?_
     refine wpo_pickf (v := .bool false) rfl rfl rfl rfl ?_
     refine wpo_pickf (v := .bool false) rfl h271 rfl rfl ?_
     refine wpo_assign (v := .bool false) rfl rfl ?_
     exact wpo_nil ⟨(congrArg Value.bool (by first | (simp only [h271, h274, h276, b0, b1, b2, b3, b4, b5, b6, b7, b8, b9]; done) | simp [h271, h274, h276])), rfl⟩
   ·
    have h295 := of_decide_eq_false h274
    iterate 5 refine wpo_pass rfl rfl rfl h274 rfl ?_
    refine wpo_run rfl rfl rfl h271 ?_
    refine wpo_pickf (v := .bool false) rfl h274 rfl rfl ?_
    refine wpo_run rfl rfl rfl h271 ?_
    refine wpo_move (v := .bool false) rfl rfl ?_
    iterate 4 refine wpo_pass rfl rfl rfl rfl rfl ?_
    refine wpo_passu rfl rfl rfl rfl ?_
    refine wpo_passu rfl rfl rfl rfl ?_
    refine wpo_pass rfl rfl rfl rfl rfl ?_
    refine wpo_run rfl rfl rfl h271 ?_
    refine wpo_pickf (v := .bool false) rfl rfl rfl rfl ?_
    refine wpo_run rfl rfl rfl h271 ?_
    refine wpo_move (v := .bool false) rfl rfl ?_
    iterate 4 refine wpo_pass rfl rfl rfl rfl rfl ?_
    refine wpo_passu rfl rfl rfl rfl ?_
    refine wpo_passu rfl rfl rfl rfl ?_
    refine wpo_pass rfl rfl rfl rfl rfl ?_
    refine wpo_run rfl rfl rfl h271 ?_
    refine wpo_pickf (v := .bool false) rfl rfl rfl rfl ?_
    refine wpo_run rfl rfl rfl h271 ?_
    refine wpo_move (v := .bool false) rfl rfl ?_
    iterate 3 refine wpo_pass rfl rfl rfl rfl rfl ?_
    iterate 3 refine wpo_passu rfl rfl rfl rfl ?_
    refine wpo_pass rfl rfl rfl rfl rfl ?_
    refine wpo_run rfl rfl rfl h271 ?_
    refine wpo_pickf (v := .bool false) rfl rfl rfl rfl ?_
    refine wpo_pickf (v := .bool false) rfl h271 rfl rfl ?_
    refine wpo_assign (v := .bool false) rfl rfl ?_
    exact wpo_nil ⟨(congrArg Value.bool (by first | (simp only [h271, h274, b0, b1, b2, b3, b4, b5, b6, b7, b8, b9]; done) | simp [h271, h274])), rfl⟩
 ·
  rintro f296 w297 ⟨e298, rfl⟩
  refine wpf_ret ?_
  refine ⟨.bool ((decide (a.th = 0)) || (((((decide (a.th = b.th)) && (decide (a.ve = b.ve))) && ((!a.rd) || b.rd)) && ((!a.wr) || b.wr)) && (a.wk || (!b.wk)))), res1 rfl e298, ?_, hb267⟩
  rfl

theorem l2Less_c (r : Rt) (a b c : Bool) (w : World) : CallsR Try.prog 100 #[.agg #[.int .i64 r.th, .int .i64 r.ve, .bool r.rd, .bool r.wr, .bool r.wk], .bool a, .bool b, .bool c] w (fun v w' => v = .agg #[.int .i64 (l2Less r a b c).th, .int .i64 (l2Less r a b c).ve, .bool (l2Less r a b c).rd, .bool (l2Less r a b c).wr, .bool (l2Less r a b c).wk] ∧ w.grownBy w' none) := by
 refine calls_of_wpf (n := 36) Try.func100 rfl Try.ntmps100 rfl ?_
 have hb0 := World.grownBy.refl w none
 refine wpf_seq_region ?_
 refine wpo_box (v := .agg #[.int .i64 r.th, .int .i64 r.ve, .bool r.rd, .bool r.wr, .bool r.wk]) (cs := #[.int .i64 r.th, .int .i64 r.ve, .bool r.rd, .bool r.wr, .bool r.wk]) rfl rfl rfl ?_
 intro B299 w300 hN301
 have hlB299 := hN_ge hN301 hb0
 have hb302 := low0 hb0 hN301.grw
 refine wpo_alloc (cs := #[.int .i64 0, .int .i64 0, .bool false, .bool false, .bool false]) zt_29 rfl rfl ?_
 intro B303 w304 hN305
 have hlB303 := hN_ge hN305 hb302
 have lt_B299_B303 := hN_gtl hN305 (hN301.blk).lt
 have hb306 := low0 hb302 hN305.grw
 refine wpo_nil ?_
 refine wpf_seq ?_
 refine wpf_seq_region ?_
 refine wpo_fieldAddr (o' := 0) fo_29_0 rfl rfl rfl ?_
 have k307 := (hN301.blk.grown0 hN305.grw)
 refine wpo_load1 (v := .int .i64 r.th) ot_3 rfl (k307.cell rfl) rfl ?_
 refine wpo_eql (q := decide (r.th = 0)) rfl rfl rfl rfl ?_
 refine wpo_nil ?_
 refine wpf_cond rfl (fun h308 => ?_) (fun h308 => ?_)
 ·
  have h309 := of_decide_eq_true h308
  refine wpf_seq_region ?_
  refine wpo_loadn (vs := [.int .i64 r.th, .int .i64 r.ve, .bool r.rd, .bool r.wr, .bool r.wk]) rt_29 rfl rfl (k307.rangeL 0 5 rfl) rfl ?_
  refine wpo_storen (vs := [.int .i64 r.th, .int .i64 r.ve, .bool r.rd, .bool r.wr, .bool r.wk]) (cs' := #[.int .i64 r.th, .int .i64 r.ve, .bool r.rd, .bool r.wr, .bool r.wk]) rt_29 rfl rfl rfl (by simp [Value.oneCell']) hN305.blk (Nat.le_of_ble_eq_true rfl) rfl ?_
  intro w310 hS311
  have hb312 := low1 hb306 hS311.grw (by omega)
  refine wpo_nil ?_
  refine wpf_ret ?_
  refine thn_r ?_
  refine ⟨.agg #[.int .i64 r.th, .int .i64 r.ve, .bool r.rd, .bool r.wr, .bool r.wk], resC rfl (resCell_mk (vs := [.int .i64 r.th, .int .i64 r.ve, .bool r.rd, .bool r.wr, .bool r.wk]) rt_29 rfl rfl (hS311.blk.rangeL 0 5 rfl)), ?_, hb312⟩
  rw [l2Less_z h308]
 ·
  have h313 := of_decide_eq_false h308
  refine wpf_skip ?_
  refine thn_n ?_
  refine wpf_seq_region ?_
  refine wpo_at 5 (fun f' w' => (f' 2 = .bool b ∧ f' 3 = .bool c ∧ f' 4 = .pointer (some ⟨B299, 0, none⟩) ∧ f' 8 = .pointer (some ⟨B303, 0, none⟩) ∧ f' 17 = .bool (r.rd && a)) ∧ w304 = w') ?_ ?_
  ·
   simp only [List.take_succ_cons, List.take_zero]
   refine wpo_fieldAddr (o' := 2) fo_29_2 rfl rfl rfl ?_
   refine wpo_load1 (v := .bool r.rd) ot_4 rfl (k307.cell rfl) rfl ?_
   refine wpo_move (v := .bool r.rd) rfl rfl ?_
   rcases bcases (r.rd) with h314 | h314
   ·
    refine wpo_run rfl rfl rfl h314 ?_
    refine wpo_move (v := .bool a) rfl rfl ?_
    refine wpo_pickt (v := .bool a) rfl h314 rfl rfl ?_
    exact wpo_nil ⟨⟨rfl, rfl, rfl, rfl, (congrArg Value.bool (by first | (simp only [h308, h314, b0, b1, b2, b3, b4, b5, b6, b7, b8, b9]; done) | simp [h308, h314]))⟩, rfl⟩
   ·
    refine wpo_pass rfl rfl rfl h314 rfl ?_
    refine wpo_pickf (v := .bool false) rfl h314 rfl rfl ?_
    exact wpo_nil ⟨⟨rfl, rfl, rfl, rfl, (congrArg Value.bool (by first | (simp only [h308, h314, b0, b1, b2, b3, b4, b5, b6, b7, b8, b9]; done) | simp [h308, h314]))⟩, rfl⟩
  ·
   rintro f315 w316 ⟨⟨e317, e318, e319, e320, e321⟩, rfl⟩
   simp only [List.drop_succ_cons, List.drop_zero]
   refine wpo_fieldAddr (o' := 2) fo_29_2 e319 rfl rfl ?_
   refine wpo_store1 (v := .bool (r.rd && a)) (cs' := #[.int .i64 r.th, .int .i64 r.ve, .bool (r.rd && a), .bool r.wr, .bool r.wk]) ot_4 rfl e321 rfl k307 (Nat.le_of_ble_eq_true rfl) rfl ?_
   intro w322 hS323
   have hb324 := low1 hb306 hS323.grw (by omega)
   refine wpo_nil ?_
   refine wpf_seq_region ?_
   refine wpo_at 8 (fun f' w' => (f' 3 = .bool c ∧ f' 4 = .pointer (some ⟨B299, 0, none⟩) ∧ f' 8 = .pointer (some ⟨B303, 0, none⟩) ∧ f' 26 = .bool ((r.wr && b) && c)) ∧ w322 = w') ?_ ?_
   ·
    simp only [List.take_succ_cons, List.take_zero]
    refine wpo_fieldAddr (o' := 3) fo_29_3 e319 rfl rfl ?_
    refine wpo_load1 (v := .bool r.wr) ot_4 rfl (hS323.blk.cell rfl) rfl ?_
    refine wpo_move (v := .bool r.wr) rfl rfl ?_
    rcases bcases (r.wr) with h325 | h325
    ·
     refine wpo_run rfl rfl rfl h325 ?_
     refine wpo_move (v := .bool b) e317 rfl ?_
     refine wpo_pickt (v := .bool b) rfl h325 rfl rfl ?_
     refine wpo_move (v := .bool b) rfl rfl ?_
     rcases bcases (b) with h326 | h326
     ·
      refine wpo_run rfl rfl rfl h326 ?_
      refine wpo_move (v := .bool c) e318 rfl ?_
      refine wpo_pickt (v := .bool c) rfl h326 rfl rfl ?_
      exact wpo_nil ⟨⟨e318, e319, e320, (congrArg Value.bool (by first | (simp only [h308, h325, h326, b0, b1, b2, b3, b4, b5, b6, b7, b8, b9]; done) | simp [h308, h325, h326]))⟩, rfl⟩
     ·
      refine wpo_pass rfl rfl rfl h326 rfl ?_
      refine wpo_pickf (v := .bool false) rfl h326 rfl rfl ?_
      exact wpo_nil ⟨⟨e318, e319, e320, (congrArg Value.bool (by first | (simp only [h308, h325, h326, b0, b1, b2, b3, b4, b5, b6, b7, b8, b9]; done) | simp [h308, h325, h326]))⟩, rfl⟩
    ·
     refine wpo_pass rfl rfl rfl h325 rfl ?_
     refine wpo_pickf (v := .bool false) rfl h325 rfl rfl ?_
     refine wpo_move (v := .bool false) rfl rfl ?_
     refine wpo_pass rfl rfl rfl rfl rfl ?_
     refine wpo_pickf (v := .bool false) rfl rfl rfl rfl ?_
     exact wpo_nil ⟨⟨e318, e319, e320, (congrArg Value.bool (by first | (simp only [h308, h325, b0, b1, b2, b3, b4, b5, b6, b7, b8, b9]; done) | simp [h308, h325]))⟩, rfl⟩
   ·
    rintro f327 w328 ⟨⟨e329, e330, e331, e332⟩, rfl⟩
    simp only [List.drop_succ_cons, List.drop_zero]
    refine wpo_fieldAddr (o' := 3) fo_29_3 e330 rfl rfl ?_
    refine wpo_store1 (v := .bool ((r.wr && b) && c)) (cs' := #[.int .i64 r.th, .int .i64 r.ve, .bool (r.rd && a), .bool ((r.wr && b) && c), .bool r.wk]) ot_4 rfl e332 rfl hS323.blk (Nat.le_of_ble_eq_true rfl) rfl ?_
    intro w333 hS334
    have hb335 := low1 hb324 hS334.grw (by omega)
    refine wpo_nil ?_
    refine wpf_seq_region ?_
    refine wpo_at 6 (fun f' w' => (f' 4 = .pointer (some ⟨B299, 0, none⟩) ∧ f' 8 = .pointer (some ⟨B303, 0, none⟩) ∧ f' 33 = .bool (r.wk || (!c))) ∧ w333 = w') ?_ ?_
    ·
     simp only [List.take_succ_cons, List.take_zero]
     refine wpo_fieldAddr (o' := 4) fo_29_4 e330 rfl rfl ?_
     refine wpo_load1 (v := .bool r.wk) ot_4 rfl (hS334.blk.cell rfl) rfl ?_
     refine wpo_move (v := .bool r.wk) rfl rfl ?_
     rcases bcases (r.wk) with h336 | h336
     ·
      refine wpo_pass rfl rfl rfl h336 rfl ?_
      refine wpo_pass rfl rfl rfl h336 rfl ?_
      refine wpo_pickt (v := .bool true) rfl h336 rfl rfl ?_
      exact wpo_nil ⟨⟨e330, e331, (congrArg Value.bool (by first | (simp only [h308, h336, b0, b1, b2, b3, b4, b5, b6, b7, b8, b9]; done) | simp [h308, h336]))⟩, rfl⟩
     ·
      refine wpo_run rfl rfl rfl h336 ?_
      refine wpo_move (v := .bool c) e329 rfl ?_
      refine wpo_run rfl rfl rfl h336 ?_
      refine wpo_not (b' := !c) rfl rfl rfl ?_
      refine wpo_pickf (v := .bool (!c)) rfl h336 rfl rfl ?_
      exact wpo_nil ⟨⟨e330, e331, (congrArg Value.bool (by first | (simp only [h308, h336, b0, b1, b2, b3, b4, b5, b6, b7, b8, b9]; done) | simp [h308, h336]))⟩, rfl⟩
    ·
     rintro f337 w338 ⟨⟨e339, e340, e341⟩, rfl⟩
     simp only [List.drop_succ_cons, List.drop_zero]
     refine wpo_fieldAddr (o' := 4) fo_29_4 e339 rfl rfl ?_
     refine wpo_store1 (v := .bool (r.wk || (!c))) (cs' := #[.int .i64 r.th, .int .i64 r.ve, .bool (r.rd && a), .bool ((r.wr && b) && c), .bool (r.wk || (!c))]) ot_4 rfl e341 rfl hS334.blk (Nat.le_of_ble_eq_true rfl) rfl ?_
     intro w342 hS343
     have hb344 := low1 hb335 hS343.grw (by omega)
     refine wpo_nil ?_
     refine wpf_seq_region ?_
     refine wpo_loadn (vs := [.int .i64 r.th, .int .i64 r.ve, .bool (r.rd && a), .bool ((r.wr && b) && c), .bool (r.wk || (!c))]) rt_29 e339 rfl (hS343.blk.rangeL 0 5 rfl) rfl ?_
     have k345 := (((hN305.blk.grown hS323.grw (some_ne (by omega))).grown hS334.grw (some_ne (by omega))).grown hS343.grw (some_ne (by omega)))
     refine wpo_storen (vs := [.int .i64 r.th, .int .i64 r.ve, .bool (r.rd && a), .bool ((r.wr && b) && c), .bool (r.wk || (!c))]) (cs' := #[.int .i64 r.th, .int .i64 r.ve, .bool (r.rd && a), .bool ((r.wr && b) && c), .bool (r.wk || (!c))]) rt_29 e340 rfl rfl (by simp [Value.oneCell']) k345 (Nat.le_of_ble_eq_true rfl) rfl ?_
     intro w346 hS347
     have hb348 := low1 hb344 hS347.grw (by omega)
     refine wpo_nil ?_
     refine wpf_ret ?_
     refine ⟨.agg #[.int .i64 r.th, .int .i64 r.ve, .bool (r.rd && a), .bool ((r.wr && b) && c), .bool (r.wk || (!c))], resC rfl (resCell_mk (vs := [.int .i64 r.th, .int .i64 r.ve, .bool (r.rd && a), .bool ((r.wr && b) && c), .bool (r.wk || (!c))]) rt_29 e340 rfl (hS347.blk.rangeL 0 5 rfl)), ?_, hb348⟩
     rw [l2Less_n h308]

theorem sRightLess_c (r : Rt) (a b c : Bool) (w : World) : CallsR Try.prog 62 #[.agg #[.int .i64 r.th, .int .i64 r.ve, .bool r.rd, .bool r.wr, .bool r.wk], .bool a, .bool b, .bool c] w (fun v w' => v = .agg #[.int .i64 (rightLess r a b c).th, .int .i64 (rightLess r a b c).ve, .bool (rightLess r a b c).rd, .bool (rightLess r a b c).wr, .bool (rightLess r a b c).wk] ∧ w.grownBy w' none) := by
 refine calls_of_wpf (n := 18) Try.func62 rfl Try.ntmps62 rfl ?_
 have hb0 := World.grownBy.refl w none
 refine wpf_seq_region ?_
 refine wpo_box (v := .agg #[.int .i64 r.th, .int .i64 r.ve, .bool r.rd, .bool r.wr, .bool r.wk]) (cs := #[.int .i64 r.th, .int .i64 r.ve, .bool r.rd, .bool r.wr, .bool r.wk]) rfl rfl rfl ?_
 intro B349 w350 hN351
 have hlB349 := hN_ge hN351 hb0
 have hb352 := low0 hb0 hN351.grw
 refine wpo_alloc (cs := #[.int .i64 0, .int .i64 0, .bool false, .bool false, .bool false]) zt_29 rfl rfl ?_
 intro B353 w354 hN355
 have hlB353 := hN_ge hN355 hb352
 have lt_B349_B353 := hN_gtl hN355 (hN351.blk).lt
 have hb356 := low0 hb352 hN355.grw
 refine wpo_nil ?_
 refine wpf_seq ?_
 refine wpf_seq_region ?_
 have k357 := (hN351.blk.grown0 hN355.grw)
 refine wpo_loadn (vs := [.int .i64 r.th, .int .i64 r.ve, .bool r.rd, .bool r.wr, .bool r.wk]) rt_29 rfl rfl (k357.rangeL 0 5 rfl) rfl ?_
 refine wpo_call (vs := [.agg #[.int .i64 r.th, .int .i64 r.ve, .bool r.rd, .bool r.wr, .bool r.wk]]) gf_54 (args_cons rfl args_nil) rfl (sRightOk_c r _) ?_
 rintro _ w358 ⟨rfl, hg359⟩
 have hb360 := low0 hb356 hg359
 refine wpo_not (b' := !rightOk r) rfl rfl rfl ?_
 refine wpo_nil ?_
 refine wpf_cond rfl (fun h361 => ?_) (fun h361 => ?_)
 ·
  have h362 := nt_t h361
  refine wpf_seq_region ?_
  refine wpo_build (ps := []) (v := .agg #[.int .i64 0, .int .i64 0, .bool false, .bool false, .bool false]) parts_nil (by kernel_rfl) rfl ?_
  have k363 := (hN355.blk.grown0 hg359)
  refine wpo_storen (vs := [.int .i64 0, .int .i64 0, .bool false, .bool false, .bool false]) (cs' := #[.int .i64 0, .int .i64 0, .bool false, .bool false, .bool false]) rt_29 rfl rfl rfl (by simp [Value.oneCell']) k363 (Nat.le_of_ble_eq_true rfl) rfl ?_
  intro w364 hS365
  have hb366 := low1 hb360 hS365.grw (by omega)
  refine wpo_nil ?_
  refine wpf_ret ?_
  refine thn_r ?_
  refine ⟨.agg #[.int .i64 0, .int .i64 0, .bool false, .bool false, .bool false], resC rfl (resCell_mk (vs := [.int .i64 0, .int .i64 0, .bool false, .bool false, .bool false]) rt_29 rfl rfl (hS365.blk.rangeL 0 5 rfl)), ?_, hb366⟩
  rw [rightLess_f h362]; rfl
 ·
  have h367 := nt_f h361
  refine wpf_skip ?_
  refine thn_n ?_
  refine wpf_seq_region ?_
  have k368 := (k357.grown0 hg359)
  refine wpo_loadn (vs := [.int .i64 r.th, .int .i64 r.ve, .bool r.rd, .bool r.wr, .bool r.wk]) rt_29 rfl rfl (k368.rangeL 0 5 rfl) rfl ?_
  refine wpo_move (v := .bool a) rfl rfl ?_
  refine wpo_move (v := .bool b) rfl rfl ?_
  refine wpo_move (v := .bool c) rfl rfl ?_
  refine wpo_call (vs := [.agg #[.int .i64 r.th, .int .i64 r.ve, .bool r.rd, .bool r.wr, .bool r.wk], .bool a, .bool b, .bool c]) gf_100 (args_cons rfl (args_cons rfl (args_cons rfl (args_cons rfl args_nil)))) rfl (l2Less_c r a b c _) ?_
  rintro _ w369 ⟨rfl, hg370⟩
  have hb371 := low0 hb360 hg370
  have k372 := ((hN355.blk.grown0 hg359).grown0 hg370)
  refine wpo_storen (vs := [.int .i64 ((l2Less r a b c).th), .int .i64 ((l2Less r a b c).ve), .bool ((l2Less r a b c).rd), .bool ((l2Less r a b c).wr), .bool ((l2Less r a b c).wk)]) (cs' := #[.int .i64 ((l2Less r a b c).th), .int .i64 ((l2Less r a b c).ve), .bool ((l2Less r a b c).rd), .bool ((l2Less r a b c).wr), .bool ((l2Less r a b c).wk)]) rt_29 rfl rfl rfl (by simp [Value.oneCell']) k372 (Nat.le_of_ble_eq_true rfl) rfl ?_
  intro w373 hS374
  have hb375 := low1 hb371 hS374.grw (by omega)
  refine wpo_nil ?_
  refine wpf_ret ?_
  refine ⟨.agg #[.int .i64 ((l2Less r a b c).th), .int .i64 ((l2Less r a b c).ve), .bool ((l2Less r a b c).rd), .bool ((l2Less r a b c).wr), .bool ((l2Less r a b c).wk)], resC rfl (resCell_mk (vs := [.int .i64 ((l2Less r a b c).th), .int .i64 ((l2Less r a b c).ve), .bool ((l2Less r a b c).rd), .bool ((l2Less r a b c).wr), .bool ((l2Less r a b c).wk)]) rt_29 rfl rfl (hS374.blk.rangeL 0 5 rfl)), ?_, hb375⟩
  rw [rightLess_t h367]

end Go.Proofs.Ytlkmdoebmklbbaa
