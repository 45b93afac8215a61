/- Walks, printed by a program of mine (gen.py) out of the functions. -/
import Derived.Test.YtemimomfjapgiaaDoorJ
import Derived.Test.YtemimomfjapgiaaDoorST
namespace Go.Proofs.YtemimomfjapgiaaDoor
open Go.RowKit Go.Dw
set_option maxRecDepth 100000
set_option maxHeartbeats 4000000
set_option linter.unusedSimpArgs false
set_option linter.unusedVariables false
theorem es_73 : elemSz Tryd.prog 73 = some 1 := by kernel_rfl
theorem fo_39_2 : fieldOff Tryd.prog 39 2 = some 2 := by kernel_rfl
theorem gf_16 : goFn Tryd.prog 16 = true := by kernel_rfl
theorem gf_32 : goFn Tryd.prog 32 = true := by kernel_rfl
theorem gf_33 : goFn Tryd.prog 33 = true := by kernel_rfl
theorem gf_53 : goFn Tryd.prog 53 = true := by kernel_rfl
theorem gf_54 : goFn Tryd.prog 54 = true := by kernel_rfl
theorem gf_61 : goFn Tryd.prog 61 = true := by kernel_rfl
theorem ot_9 : oneTy Tryd.prog 9 = true := by kernel_rfl
theorem dec1_c (n : Int) (hn : 0 ≤ n ∧ n ≤ 9) (w : World) : CallsR Tryd.prog 32 #[.int .i64 n] w (fun v w' => v = .string ⟨(dec2 n).toArray⟩ ∧ w.grownBy w' none) := by
 refine calls_of_wpf (n := 28) Tryd.func32 rfl Tryd.ntmps32 rfl ?_
 have hb0 := World.grownBy.refl w none
 refine wpf_seq_region ?_
 refine wpo_assign (v := .string ⟨([] : List UInt8).toArray⟩) rfl rfl ?_
 refine wpo_nil ?_
 refine wpf_seq ?_
 refine wpf_seq_region ?_
 refine wpo_move (v := .int .i64 n) rfl rfl ?_
 refine wpo_lss (q := decide (n < (-9223372036854775807))) rfl rfl rfl rfl ?_
 refine wpo_nil ?_
 refine wpf_condf rfl (decide_eq_false (by omega)) ?_
 refine wpf_skip ?_
 refine thn_n ?_
 refine wpf_seq ?_
 refine wpf_seq_region ?_
 refine wpo_move (v := .int .i64 n) rfl rfl ?_
 refine wpo_lss (q := decide (n < 0)) rfl rfl rfl rfl ?_
 refine wpo_nil ?_
 refine wpf_condf rfl (decide_eq_false (by omega)) ?_
 refine wpf_skip ?_
 refine thn_n ?_
 refine wpf_seq ?_
 refine wpf_seq_region ?_
 refine wpo_move (v := .int .i64 n) rfl rfl ?_
 refine wpo_lss (q := decide (n < 10)) rfl rfl rfl rfl ?_
 refine wpo_nil ?_
 refine wpf_condt rfl (decide_eq_true (by omega)) ?_
 refine wpf_seq_region ?_
 refine wpo_move (v := .int .i64 n) rfl rfl ?_
 refine wpo_add (c := 48 + n) rfl rfl (by omega) (by omega) (by omega) rfl ?_
 refine wpo_conv (P := Tryd.prog) (k' := .u8) rfl (by kernel_rfl) (by kernel_rfl) (conv_u8 (by omega) (by omega)) rfl ?_
 refine wpo_buildSlice (ps := [(0, .int .u8 (48 + n))]) (e := 5) (cs := #[.int .u8 (48 + n)]) (parts_cons rfl parts_nil) (fun _ => by kernel_rfl) rfl ?_
 intro B101 w102 hN103
 have hlB101 := hN_ge hN103 hb0
 have hb104 := low0 hb0 hN103.grw
 refine wpo_bstr (ns := [48 + n]) (e := 5) rfl (by kernel_rfl) (by kernel_rfl) (by kernel_rfl) (load_blk hN103.blk rfl rfl) rfl ?_
 refine wpo_assign (v := .string ⟨(ub [48 + n]).toArray⟩) rfl rfl ?_
 refine wpo_nil ?_
 refine wpf_ret ?_
 refine thn_r ?_
 refine ⟨.string ⟨(ub [48 + n]).toArray⟩, res1 rfl rfl, ?_, hb104⟩
 exact congrArg (fun z : List UInt8 => Value.string ⟨z.toArray⟩) ((dec_1 hn.2).symm)

theorem dec2_c (n : Int) (hn : 10 ≤ n ∧ n ≤ 99) (w : World) : CallsR Tryd.prog 32 #[.int .i64 n] w (fun v w' => v = .string ⟨(dec2 n).toArray⟩ ∧ w.grownBy w' none) := by
 refine calls_of_wpf (n := 28) Tryd.func32 rfl Tryd.ntmps32 rfl ?_
 have hb0 := World.grownBy.refl w none
 refine wpf_seq_region ?_
 refine wpo_assign (v := .string ⟨([] : List UInt8).toArray⟩) rfl rfl ?_
 refine wpo_nil ?_
 refine wpf_seq ?_
 refine wpf_seq_region ?_
 refine wpo_move (v := .int .i64 n) rfl rfl ?_
 refine wpo_lss (q := decide (n < (-9223372036854775807))) rfl rfl rfl rfl ?_
 refine wpo_nil ?_
 refine wpf_condf rfl (decide_eq_false (by omega)) ?_
 refine wpf_skip ?_
 refine thn_n ?_
 refine wpf_seq ?_
 refine wpf_seq_region ?_
 refine wpo_move (v := .int .i64 n) rfl rfl ?_
 refine wpo_lss (q := decide (n < 0)) rfl rfl rfl rfl ?_
 refine wpo_nil ?_
 refine wpf_condf rfl (decide_eq_false (by omega)) ?_
 refine wpf_skip ?_
 refine thn_n ?_
 refine wpf_seq ?_
 refine wpf_seq_region ?_
 refine wpo_move (v := .int .i64 n) rfl rfl ?_
 refine wpo_lss (q := decide (n < 10)) rfl rfl rfl rfl ?_
 refine wpo_nil ?_
 refine wpf_condf rfl (decide_eq_false (by omega)) ?_
 refine wpf_skip ?_
 refine thn_n ?_
 refine wpf_seq ?_
 refine wpf_drawI (m := 9) [[], [0], [0, 1], [], [3], [3, 4], [3, 4, 5], [3, 4, 5, 6], [3, 4, 5, 6, 7], [0, 1, 2, 3, 4, 5, 6, 7, 8], [0, 1, 2, 3, 4, 5, 6, 7, 8, 9]] (fun S F w' => ∃ (B125 : Nat), w.grownBy w' none ∧ F 0 = .int .i64 n ∧ F 2 = .string ⟨([] : List UInt8).toArray⟩ ∧ (S 7 = true → F 25 = .slice (some ⟨B125, 0, none⟩) 1 1 ∧ w.heap.size ≤ B125 ∧ Blk w' B125 5 #[.int .u8 (48 + (n % 10))] ∧ w.heap.size ≤ B125) ∧ Vals S F [(0, 18, .int .i64 n), (1, 19, .int .i64 (n / 10)), (2, 20, .string ⟨(dec2 (n / 10)).toArray⟩), (3, 21, .int .i64 n), (4, 22, .int .i64 (n % 10)), (5, 23, .int .i64 (48 + (n % 10))), (6, 24, .int .u8 (48 + (n % 10))), (8, 26, .string ⟨(ub [48 + (n % 10)]).toArray⟩)]) mixed_ (by kernel_rfl) ⟨0, grown_drew _, rfl, rfl, not_begun, vals_0 _⟩ ?_ ?_
 ·
  refine preL_cons (fun S F w129 hS hbef hcl hI => ?_) ?_
  ·
   obtain ⟨B125, hi130, e131, e132, c_7, hvs⟩ := hI
   have hb133 := low0 hb0 hi130
   refine wpo_move (v := .int .i64 n) e131 rfl ?_
   exact wpo_nil ⟨B125, hi130, e131, e132, c_7, Vals.up 0 hvs rfl rfl rfl⟩
  refine preL_cons (fun S F w134 hS hbef hcl hI => ?_) ?_
  ·
   obtain ⟨B125, hi135, e136, e137, c_7, hvs⟩ := hI
   have hb138 := low0 hb0 hi135
   have ev139 := Vals.at 0 hvs rfl (ready_of 0 hbef rfl)
   refine wpo_quo (c := n / 10) ev139 rfl (by omega) (by omega) (by omega) rfl rfl ?_
   exact wpo_nil ⟨B125, hi135, e136, e137, c_7, Vals.up 1 hvs rfl rfl rfl⟩
  refine preL_cons (fun S F w140 hS hbef hcl hI => ?_) ?_
  ·
   obtain ⟨B125, hi141, e142, e143, c_7, hvs⟩ := hI
   have hb144 := low0 hb0 hi141
   have ev145 := Vals.at 0 hvs rfl (ready_of 0 hbef rfl)
   have ev146 := Vals.at 1 hvs rfl (ready_of 1 hbef rfl)
   refine wpo_call (vs := [.int .i64 (n / 10)]) gf_32 (args_cons ev146 args_nil) rfl (dec1_c (n / 10) (by omega) _) ?_
   rintro _ w147 ⟨rfl, hg148⟩
   have hb149 := low0 hb144 hg148
   exact wpo_nil ⟨B125, (low0 hi141 hg148), e142, e143, fun h => let ⟨y150, y151, y152, y153⟩ := c_7 h; ⟨y150, y151, (y152).grown0 hg148, y153⟩, Vals.up 2 hvs rfl rfl rfl⟩
  refine preL_cons (fun S F w154 hS hbef hcl hI => ?_) ?_
  ·
   obtain ⟨B125, hi155, e156, e157, c_7, hvs⟩ := hI
   have hb158 := low0 hb0 hi155
   refine wpo_move (v := .int .i64 n) e156 rfl ?_
   exact wpo_nil ⟨B125, hi155, e156, e157, fun h => undone 7 hS hcl rfl h, Vals.up 3 hvs rfl rfl rfl⟩
  refine preL_cons (fun S F w159 hS hbef hcl hI => ?_) ?_
  ·
   obtain ⟨B125, hi160, e161, e162, c_7, hvs⟩ := hI
   have hb163 := low0 hb0 hi160
   have ev164 := Vals.at 3 hvs rfl (ready_of 3 hbef rfl)
   refine wpo_rem (c := n % 10) ev164 rfl (by omega) (by omega) (by omega) rfl rfl ?_
   exact wpo_nil ⟨B125, hi160, e161, e162, fun h => undone 7 hS hcl rfl h, Vals.up 4 hvs rfl rfl rfl⟩
  refine preL_cons (fun S F w165 hS hbef hcl hI => ?_) ?_
  ·
   obtain ⟨B125, hi166, e167, e168, c_7, hvs⟩ := hI
   have hb169 := low0 hb0 hi166
   have ev170 := Vals.at 3 hvs rfl (ready_of 3 hbef rfl)
   have ev171 := Vals.at 4 hvs rfl (ready_of 4 hbef rfl)
   refine wpo_add (c := 48 + (n % 10)) rfl ev171 (by omega) (by omega) (by omega) rfl ?_
   exact wpo_nil ⟨B125, hi166, e167, e168, fun h => undone 7 hS hcl rfl h, Vals.up 5 hvs rfl rfl rfl⟩
  refine preL_cons (fun S F w172 hS hbef hcl hI => ?_) ?_
  ·
   obtain ⟨B125, hi173, e174, e175, c_7, hvs⟩ := hI
   have hb176 := low0 hb0 hi173
   have ev177 := Vals.at 3 hvs rfl (ready_of 3 hbef rfl)
   have ev178 := Vals.at 4 hvs rfl (ready_of 4 hbef rfl)
   have ev179 := Vals.at 5 hvs rfl (ready_of 5 hbef rfl)
   refine wpo_conv (P := Tryd.prog) (k' := .u8) ev179 (by kernel_rfl) (by kernel_rfl) (conv_u8 (by omega) (by omega)) rfl ?_
   exact wpo_nil ⟨B125, hi173, e174, e175, fun h => undone 7 hS hcl rfl h, Vals.up 6 hvs rfl rfl rfl⟩
  refine preL_cons (fun S F w180 hS hbef hcl hI => ?_) ?_
  ·
   obtain ⟨B125, hi181, e182, e183, c_7, hvs⟩ := hI
   have hb184 := low0 hb0 hi181
   have ev185 := Vals.at 3 hvs rfl (ready_of 3 hbef rfl)
   have ev186 := Vals.at 4 hvs rfl (ready_of 4 hbef rfl)
   have ev187 := Vals.at 5 hvs rfl (ready_of 5 hbef rfl)
   have ev188 := Vals.at 6 hvs rfl (ready_of 6 hbef rfl)
   refine wpo_buildSlice (ps := [(0, .int .u8 (48 + (n % 10)))]) (e := 5) (cs := #[.int .u8 (48 + (n % 10))]) (parts_cons ev188 parts_nil) (fun _ => by kernel_rfl) rfl ?_
   intro B189 w190 hN191
   have hlB189 := hN_ge hN191 hb184
   have hb192 := low0 hb184 hN191.grw
   exact wpo_nil ⟨B189, (low0 hi181 hN191.grw), e182, e183, fun _ => ⟨rfl, hlB189, hN191.blk, (Nat.le_trans hi181.size (Nat.le_of_eq hN191.eq.symm))⟩, Vals.keep hvs rfl⟩
  refine preL_cons (fun S F w193 hS hbef hcl hI => ?_) ?_
  ·
   obtain ⟨B125, hi194, e195, e196, c_7, hvs⟩ := hI
   have hb197 := low0 hb0 hi194
   have ev198 := Vals.at 3 hvs rfl (ready_of 3 hbef rfl)
   have ev199 := Vals.at 4 hvs rfl (ready_of 4 hbef rfl)
   have ev200 := Vals.at 5 hvs rfl (ready_of 5 hbef rfl)
   have ev201 := Vals.at 6 hvs rfl (ready_of 6 hbef rfl)
   obtain ⟨e202, hlB125, kb_B125, hk_B125⟩ := c_7 (ready_of 7 hbef rfl)
   refine wpo_bstr (ns := [48 + (n % 10)]) (e := 5) e202 (by kernel_rfl) (by kernel_rfl) (by kernel_rfl) (load_blk kb_B125 rfl rfl) rfl ?_
   exact wpo_nil ⟨B125, hi194, e195, e196, c_7, Vals.up 7 hvs rfl rfl rfl⟩
  exact preL_nil
 ·
  intro S F w203 hall hI
  obtain ⟨B125, hi204, e205, e206, c_7, hvs⟩ := hI
  have hb207 := low0 hb0 hi204
  have ev208 := Vals.at 0 hvs rfl (hall 0 (by decide))
  have ev209 := Vals.at 1 hvs rfl (hall 1 (by decide))
  have ev210 := Vals.at 2 hvs rfl (hall 2 (by decide))
  have ev211 := Vals.at 3 hvs rfl (hall 3 (by decide))
  have ev212 := Vals.at 4 hvs rfl (hall 4 (by decide))
  have ev213 := Vals.at 5 hvs rfl (hall 5 (by decide))
  have ev214 := Vals.at 6 hvs rfl (hall 6 (by decide))
  obtain ⟨e215, hlB125, kb_B125, hk_B125⟩ := c_7 (hall 7 (by decide))
  have ev216 := Vals.at 7 hvs rfl (hall 8 (by decide))
  refine wpo_cat (a := dec2 (n / 10)) (b := ub [48 + (n % 10)]) ev210 ev216 (Nat.le_trans (dec2_len (n / 10)) (by decide)) (Nat.le_trans (show (ub [48 + (n % 10)]).length ≤ 1 from Nat.le_refl _) (by decide)) rfl ?_
  refine wpo_assign (v := .string ⟨((dec2 (n / 10)) ++ (ub [48 + (n % 10)])).toArray⟩) rfl rfl ?_
  refine wpo_nil ?_
  refine thn_n ?_
  refine wpf_ret ?_
  refine ⟨.string ⟨((dec2 (n / 10)) ++ (ub [48 + (n % 10)])).toArray⟩, res1 rfl rfl, ?_, hb207⟩
  exact congrArg (fun z : List UInt8 => Value.string ⟨z.toArray⟩) ((dec_2 hn).symm)

theorem dec3_c (n : Int) (hn : -9 ≤ n ∧ n < 0) (w : World) : CallsR Tryd.prog 32 #[.int .i64 n] w (fun v w' => v = .string ⟨(dec n).toArray⟩ ∧ w.grownBy w' none) := by
 refine calls_of_wpf (n := 28) Tryd.func32 rfl Tryd.ntmps32 rfl ?_
 have hb0 := World.grownBy.refl w none
 refine wpf_seq_region ?_
 refine wpo_assign (v := .string ⟨([] : List UInt8).toArray⟩) rfl rfl ?_
 refine wpo_nil ?_
 refine wpf_seq ?_
 refine wpf_seq_region ?_
 refine wpo_move (v := .int .i64 n) rfl rfl ?_
 refine wpo_lss (q := decide (n < (-9223372036854775807))) rfl rfl rfl rfl ?_
 refine wpo_nil ?_
 refine wpf_condf rfl (decide_eq_false (by omega)) ?_
 refine wpf_skip ?_
 refine thn_n ?_
 refine wpf_seq ?_
 refine wpf_seq_region ?_
 refine wpo_move (v := .int .i64 n) rfl rfl ?_
 refine wpo_lss (q := decide (n < 0)) rfl rfl rfl rfl ?_
 refine wpo_nil ?_
 refine wpf_condt rfl (decide_eq_true (by omega)) ?_
 refine wpf_seq_region ?_
 refine wpo_move (v := .int .i64 n) rfl rfl ?_
 refine wpo_neg (c := -n) rfl rfl (by omega) (by omega) rfl ?_
 refine wpo_call (vs := [.int .i64 (-n)]) gf_32 (args_cons rfl args_nil) rfl (dec1_c (-n) (by omega) _) ?_
 rintro _ w101 ⟨rfl, hg102⟩
 have hb103 := low0 hb0 hg102
 refine wpo_cat (a := ([45] : List UInt8)) (b := dec2 (-n)) rfl rfl (Nat.le_trans (Nat.le_refl _) (by decide)) (Nat.le_trans (dec2_len (-n)) (by decide)) rfl ?_
 refine wpo_assign (v := .string ⟨(([45] : List UInt8) ++ (dec2 (-n))).toArray⟩) rfl rfl ?_
 refine wpo_nil ?_
 refine wpf_ret ?_
 refine thn_r ?_
 refine ⟨.string ⟨(([45] : List UInt8) ++ (dec2 (-n))).toArray⟩, res1 rfl rfl, ?_, hb103⟩
 exact congrArg (fun z : List UInt8 => Value.string ⟨z.toArray⟩) ((dec_3 hn.2).symm)

theorem dec_c (n : Int) (hn : -9 ≤ n ∧ n ≤ 99) (w : World) : CallsR Tryd.prog 32 #[.int .i64 n] w (fun v w' => v = .string ⟨(dec n).toArray⟩ ∧ w.grownBy w' none) := by
  by_cases h1 : n < 0
  · exact dec3_c n ⟨hn.1, h1⟩ w
  · rw [dec_p (by omega)]
    by_cases h2 : n ≤ 9
    · exact dec1_c n ⟨by omega, h2⟩ w
    · exact dec2_c n ⟨by omega, hn.2⟩ w
theorem flag_c (b : Bool) (l : List UInt8) (w : World) : CallsR Tryd.prog 61 #[.bool b, .string ⟨(l).toArray⟩] w (fun v w' => v = .string ⟨(flg b l).toArray⟩ ∧ w.grownBy w' none) := by
 refine calls_of_wpf (n := 7) Tryd.func61 rfl Tryd.ntmps61 rfl ?_
 have hb0 := World.grownBy.refl w none
 refine wpf_seq_region ?_
 refine wpo_assign (v := .string ⟨([] : List UInt8).toArray⟩) rfl rfl ?_
 refine wpo_nil ?_
 refine wpf_seq ?_
 refine wpf_seq_region ?_
 refine wpo_move (v := .bool b) rfl rfl ?_
 refine wpo_nil ?_
 refine wpf_cond rfl (fun h101 => ?_) (fun h101 => ?_)
 ·
  refine wpf_seq_region ?_
  refine wpo_move (v := .string ⟨(l).toArray⟩) rfl rfl ?_
  refine wpo_assign (v := .string ⟨(l).toArray⟩) rfl rfl ?_
  refine wpo_nil ?_
  refine wpf_ret ?_
  refine thn_r ?_
  refine ⟨.string ⟨(l).toArray⟩, res1 rfl rfl, ?_, hb0⟩
  exact congrArg (fun z : List UInt8 => Value.string ⟨z.toArray⟩) ((if_pos h101).symm)
 ·
  refine wpf_skip ?_
  refine thn_n ?_
  refine wpf_seq_region ?_
  refine wpo_assign (v := .string ⟨([45] : List UInt8).toArray⟩) rfl rfl ?_
  refine wpo_nil ?_
  refine wpf_ret ?_
  refine ⟨.string ⟨([45] : List UInt8).toArray⟩, res1 rfl rfl, ?_, hb0⟩
  exact congrArg (fun z : List UInt8 => Value.string ⟨z.toArray⟩) ((if_neg (by rw [h101]; exact Bool.false_ne_true)).symm)

theorem labtx_c (l : Lab) (w : World) : CallsR Tryd.prog 53 #[.agg #[.int .i64 l.s, .int .i64 l.v]] w (fun v w' => v = .string ⟨(labtx l).toArray⟩ ∧ w.grownBy w' none) := by
 refine calls_of_wpf (n := 14) Tryd.func53 rfl Tryd.ntmps53 rfl ?_
 have hb0 := World.grownBy.refl w none
 refine wpf_seq_region ?_
 refine wpo_box (v := .agg #[.int .i64 l.s, .int .i64 l.v]) (cs := #[.int .i64 l.s, .int .i64 l.v]) rfl rfl rfl ?_
 intro B101 w102 hN103
 have hlB101 := hN_ge hN103 hb0
 have hb104 := low0 hb0 hN103.grw
 refine wpo_assign (v := .string ⟨([] : List UInt8).toArray⟩) rfl rfl ?_
 refine wpo_nil ?_
 refine wpf_seq ?_
 refine wpf_seq_region ?_
 refine wpo_loadn (vs := [.int .i64 l.s, .int .i64 l.v]) rt_27 rfl rfl (hN103.blk.rangeL 0 2 rfl) rfl ?_
 refine wpo_call (vs := [.agg #[.int .i64 l.s, .int .i64 l.v]]) gf_51 (args_cons rfl args_nil) rfl (sLabelOk_c l _) ?_
 rintro _ w105 ⟨rfl, hg106⟩
 have hb107 := low0 hb104 hg106
 refine wpo_not (b' := !labelOk l) rfl rfl rfl ?_
 refine wpo_nil ?_
 refine wpf_cond rfl (fun h108 => ?_) (fun h108 => ?_)
 ·
  have h109 := nt_t h108
  refine wpf_seq_region ?_
  refine wpo_assign (v := .string ⟨([] : List UInt8).toArray⟩) rfl rfl ?_
  refine wpo_nil ?_
  refine wpf_ret ?_
  refine thn_r ?_
  refine ⟨.string ⟨([] : List UInt8).toArray⟩, res1 rfl rfl, ?_, hb107⟩
  exact congrArg (fun z : List UInt8 => Value.string ⟨z.toArray⟩) ((if_neg (by rw [h109]; exact Bool.false_ne_true)).symm)
 ·
  have h110 := nt_f h108
  have hlk111 := (labelOk_iff l).1 h110
  refine wpf_skip ?_
  refine thn_n ?_
  refine wpf_seq ?_
  refine wpf_draw (m := 7) (vals := [(6, .pointer (some ⟨B101, 0, none⟩)), (7, .int .i64 l.s), (8, .string ⟨(dec l.s).toArray⟩), (9, .string ⟨((dec l.s) ++ ([47] : List UInt8)).toArray⟩), (10, .pointer (some ⟨B101, 1, none⟩)), (11, .int .i64 l.v), (12, .string ⟨(dec l.v).toArray⟩)]) (fun w' => w105.grownBy w' none) mixed_ (by kernel_rfl) (grown_drew _) ?_ ?_
  ·
   refine yll_cons rfl (fun w144 hi145 => ?_) ?_
   ·
    have hb146 := low0 hb107 hi145
    refine wpo_fieldAddr (o' := 0) fo_27_0 rfl rfl rfl ?_
    exact wpo_nil ⟨rfl, hi145⟩
   refine yll_cons rfl (fun w147 hi148 => ?_) ?_
   ·
    have hb149 := low0 hb107 hi148
    have k150 := ((hN103.blk.grown0 hg106).grown0 hi148)
    refine wpo_load1 (v := .int .i64 l.s) ot_3 rfl (k150.cell rfl) rfl ?_
    exact wpo_nil ⟨rfl, hi148⟩
   refine yll_cons rfl (fun w151 hi152 => ?_) ?_
   ·
    have hb153 := low0 hb107 hi152
    refine wpo_call (vs := [.int .i64 l.s]) gf_32 (args_cons rfl args_nil) rfl (dec_c l.s (by omega) _) ?_
    rintro _ w154 ⟨rfl, hg155⟩
    have hb156 := low0 hb153 hg155
    exact wpo_nil ⟨rfl, (grown_trans hi152 hg155)⟩
   refine yll_cons rfl (fun w157 hi158 => ?_) ?_
   ·
    have hb159 := low0 hb107 hi158
    refine wpo_cat (a := dec l.s) (b := ([47] : List UInt8)) rfl rfl (Nat.le_trans (dec_len l.s) (by decide)) (Nat.le_trans (Nat.le_refl _) (by decide)) rfl ?_
    exact wpo_nil ⟨rfl, hi158⟩
   refine yll_cons rfl (fun w160 hi161 => ?_) ?_
   ·
    have hb162 := low0 hb107 hi161
    refine wpo_fieldAddr (o' := 1) fo_27_1 rfl rfl rfl ?_
    exact wpo_nil ⟨rfl, hi161⟩
   refine yll_cons rfl (fun w163 hi164 => ?_) ?_
   ·
    have hb165 := low0 hb107 hi164
    have k166 := ((hN103.blk.grown0 hg106).grown0 hi164)
    refine wpo_load1 (v := .int .i64 l.v) ot_3 rfl (k166.cell rfl) rfl ?_
    exact wpo_nil ⟨rfl, hi164⟩
   refine yll_cons rfl (fun w167 hi168 => ?_) ?_
   ·
    have hb169 := low0 hb107 hi168
    refine wpo_call (vs := [.int .i64 l.v]) gf_32 (args_cons rfl args_nil) rfl (dec_c l.v (by omega) _) ?_
    rintro _ w170 ⟨rfl, hg171⟩
    have hb172 := low0 hb169 hg171
    exact wpo_nil ⟨rfl, (grown_trans hi168 hg171)⟩
   exact yll_nil
  ·
   intro w173 hi174
   have hb175 := low0 hb107 hi174
   refine wpo_cat (a := ((dec l.s) ++ ([47] : List UInt8))) (b := dec l.v) rfl rfl (Nat.le_trans (len_app (dec_len l.s) (Nat.le_refl _)) (by decide)) (Nat.le_trans (dec_len l.v) (by decide)) rfl ?_
   refine wpo_assign (v := .string ⟨(((dec l.s) ++ ([47] : List UInt8)) ++ (dec l.v)).toArray⟩) rfl rfl ?_
   refine wpo_nil ?_
   refine thn_n ?_
   refine wpf_ret ?_
   refine ⟨.string ⟨(((dec l.s) ++ ([47] : List UInt8)) ++ (dec l.v)).toArray⟩, res1 rfl rfl, ?_, hb175⟩
   exact congrArg (fun z : List UInt8 => Value.string ⟨z.toArray⟩) ((if_pos h110).symm)

theorem rtx_c (r : Rt) (w : World) : CallsR Tryd.prog 54 #[.agg #[.int .i64 r.th, .int .i64 r.ve, .bool r.rd, .bool r.wr, .bool r.wk]] w (fun v w' => v = .string ⟨(rtx r).toArray⟩ ∧ w.grownBy w' none) := by
 refine calls_of_wpf (n := 29) Tryd.func54 rfl Tryd.ntmps54 rfl ?_
 have hb0 := World.grownBy.refl w none
 refine wpf_seq_region ?_
 refine wpo_box (v := .agg #[.int .i64 r.th, .int .i64 r.ve, .bool r.rd, .bool r.wr, .bool r.wk]) (cs := #[.int .i64 r.th, .int .i64 r.ve, .bool r.rd, .bool r.wr, .bool r.wk]) rfl rfl rfl ?_
 intro B101 w102 hN103
 have hlB101 := hN_ge hN103 hb0
 have hb104 := low0 hb0 hN103.grw
 refine wpo_assign (v := .string ⟨([] : List UInt8).toArray⟩) rfl rfl ?_
 refine wpo_nil ?_
 refine wpf_seq ?_
 refine wpf_seq_region ?_
 refine wpo_loadn (vs := [.int .i64 r.th, .int .i64 r.ve, .bool r.rd, .bool r.wr, .bool r.wk]) rt_39 rfl rfl (hN103.blk.rangeL 0 5 rfl) rfl ?_
 refine wpo_call (vs := [.agg #[.int .i64 r.th, .int .i64 r.ve, .bool r.rd, .bool r.wr, .bool r.wk]]) gf_44 (args_cons rfl args_nil) rfl (sRightOk_c r _) ?_
 rintro _ w105 ⟨rfl, hg106⟩
 have hb107 := low0 hb104 hg106
 refine wpo_not (b' := !rightOk r) rfl rfl rfl ?_
 refine wpo_nil ?_
 refine wpf_cond rfl (fun h108 => ?_) (fun h108 => ?_)
 ·
  have h109 := nt_t h108
  refine wpf_seq_region ?_
  refine wpo_assign (v := .string ⟨([] : List UInt8).toArray⟩) rfl rfl ?_
  refine wpo_nil ?_
  refine wpf_ret ?_
  refine thn_r ?_
  refine ⟨.string ⟨([] : List UInt8).toArray⟩, res1 rfl rfl, ?_, hb107⟩
  exact congrArg (fun z : List UInt8 => Value.string ⟨z.toArray⟩) ((if_neg (by rw [h109]; exact Bool.false_ne_true)).symm)
 ·
  have h110 := nt_f h108
  have hrk111 := right_rng h110
  refine wpf_skip ?_
  refine thn_n ?_
  refine wpf_seq ?_
  refine wpf_seq_region ?_
  refine wpo_fieldAddr (o' := 0) fo_39_0 rfl rfl rfl ?_
  have k112 := (hN103.blk.grown0 hg106)
  refine wpo_load1 (v := .int .i64 r.th) ot_3 rfl (k112.cell rfl) rfl ?_
  refine wpo_eql (q := decide (r.th = 0)) rfl rfl rfl rfl ?_
  refine wpo_nil ?_
  refine wpf_cond rfl (fun h113 => ?_) (fun h113 => ?_)
  ·
   have h114 := of_decide_eq_true h113
   refine wpf_seq_region ?_
   refine wpo_assign (v := .string ⟨([45] : List UInt8).toArray⟩) rfl rfl ?_
   refine wpo_nil ?_
   refine wpf_ret ?_
   refine thn_r ?_
   refine ⟨.string ⟨([45] : List UInt8).toArray⟩, res1 rfl rfl, ?_, hb107⟩
   exact congrArg (fun z : List UInt8 => Value.string ⟨z.toArray⟩) (((if_pos h110).trans (if_pos (of_decide_eq_true h113))).symm)
  ·
   have h115 := of_decide_eq_false h113
   refine wpf_skip ?_
   refine thn_n ?_
   refine wpf_seq ?_
   refine wpf_draw (m := 19) (vals := [(9, .pointer (some ⟨B101, 0, none⟩)), (10, .int .i64 r.th), (11, .string ⟨(dec r.th).toArray⟩), (12, .string ⟨((dec r.th) ++ ([46] : List UInt8)).toArray⟩), (13, .pointer (some ⟨B101, 1, none⟩)), (14, .int .i64 r.ve), (15, .string ⟨(dec r.ve).toArray⟩), (16, .string ⟨(((dec r.th) ++ ([46] : List UInt8)) ++ (dec r.ve)).toArray⟩), (17, .pointer (some ⟨B101, 2, none⟩)), (18, .bool r.rd), (19, .string ⟨(flg r.rd [114]).toArray⟩), (20, .string ⟨((((dec r.th) ++ ([46] : List UInt8)) ++ (dec r.ve)) ++ (flg r.rd [114])).toArray⟩), (21, .pointer (some ⟨B101, 3, none⟩)), (22, .bool r.wr), (23, .string ⟨(flg r.wr [119]).toArray⟩), (24, .string ⟨(((((dec r.th) ++ ([46] : List UInt8)) ++ (dec r.ve)) ++ (flg r.rd [114])) ++ (flg r.wr [119])).toArray⟩), (25, .pointer (some ⟨B101, 4, none⟩)), (26, .bool r.wk), (27, .string ⟨(flg r.wk [107]).toArray⟩)]) (fun w' => w105.grownBy w' none) mixed_ (by kernel_rfl) (grown_drew _) ?_ ?_
   ·
    refine yll_cons rfl (fun w192 hi193 => ?_) ?_
    ·
     have hb194 := low0 hb107 hi193
     refine wpo_fieldAddr (o' := 0) fo_39_0 rfl rfl rfl ?_
     exact wpo_nil ⟨rfl, hi193⟩
    refine yll_cons rfl (fun w195 hi196 => ?_) ?_
    ·
     have hb197 := low0 hb107 hi196
     have k198 := (k112.grown0 hi196)
     refine wpo_load1 (v := .int .i64 r.th) ot_3 rfl (k198.cell rfl) rfl ?_
     exact wpo_nil ⟨rfl, hi196⟩
    refine yll_cons rfl (fun w199 hi200 => ?_) ?_
    ·
     have hb201 := low0 hb107 hi200
     refine wpo_call (vs := [.int .i64 r.th]) gf_32 (args_cons rfl args_nil) rfl (dec_c r.th (by omega) _) ?_
     rintro _ w202 ⟨rfl, hg203⟩
     have hb204 := low0 hb201 hg203
     exact wpo_nil ⟨rfl, (grown_trans hi200 hg203)⟩
    refine yll_cons rfl (fun w205 hi206 => ?_) ?_
    ·
     have hb207 := low0 hb107 hi206
     refine wpo_cat (a := dec r.th) (b := ([46] : List UInt8)) rfl rfl (Nat.le_trans (dec_len r.th) (by decide)) (Nat.le_trans (Nat.le_refl _) (by decide)) rfl ?_
     exact wpo_nil ⟨rfl, hi206⟩
    refine yll_cons rfl (fun w208 hi209 => ?_) ?_
    ·
     have hb210 := low0 hb107 hi209
     refine wpo_fieldAddr (o' := 1) fo_39_1 rfl rfl rfl ?_
     exact wpo_nil ⟨rfl, hi209⟩
    refine yll_cons rfl (fun w211 hi212 => ?_) ?_
    ·
     have hb213 := low0 hb107 hi212
     have k214 := (k112.grown0 hi212)
     refine wpo_load1 (v := .int .i64 r.ve) ot_3 rfl (k214.cell rfl) rfl ?_
     exact wpo_nil ⟨rfl, hi212⟩
    refine yll_cons rfl (fun w215 hi216 => ?_) ?_
    ·
     have hb217 := low0 hb107 hi216
     refine wpo_call (vs := [.int .i64 r.ve]) gf_32 (args_cons rfl args_nil) rfl (dec_c r.ve (by omega) _) ?_
     rintro _ w218 ⟨rfl, hg219⟩
     have hb220 := low0 hb217 hg219
     exact wpo_nil ⟨rfl, (grown_trans hi216 hg219)⟩
    refine yll_cons rfl (fun w221 hi222 => ?_) ?_
    ·
     have hb223 := low0 hb107 hi222
     refine wpo_cat (a := ((dec r.th) ++ ([46] : List UInt8))) (b := dec r.ve) rfl rfl (Nat.le_trans (len_app (dec_len r.th) (Nat.le_refl _)) (by decide)) (Nat.le_trans (dec_len r.ve) (by decide)) rfl ?_
     exact wpo_nil ⟨rfl, hi222⟩
    refine yll_cons rfl (fun w224 hi225 => ?_) ?_
    ·
     have hb226 := low0 hb107 hi225
     refine wpo_fieldAddr (o' := 2) fo_39_2 rfl rfl rfl ?_
     exact wpo_nil ⟨rfl, hi225⟩
    refine yll_cons rfl (fun w227 hi228 => ?_) ?_
    ·
     have hb229 := low0 hb107 hi228
     have k230 := (k112.grown0 hi228)
     refine wpo_load1 (v := .bool r.rd) ot_4 rfl (k230.cell rfl) rfl ?_
     exact wpo_nil ⟨rfl, hi228⟩
    refine yll_cons rfl (fun w231 hi232 => ?_) ?_
    ·
     have hb233 := low0 hb107 hi232
     refine wpo_call (vs := [.bool r.rd, .string ⟨([114] : List UInt8).toArray⟩]) gf_61 (args_cons rfl (args_cons rfl args_nil)) rfl (flag_c r.rd [114] _) ?_
     rintro _ w234 ⟨rfl, hg235⟩
     have hb236 := low0 hb233 hg235
     exact wpo_nil ⟨rfl, (grown_trans hi232 hg235)⟩
    refine yll_cons rfl (fun w237 hi238 => ?_) ?_
    ·
     have hb239 := low0 hb107 hi238
     refine wpo_cat (a := (((dec r.th) ++ ([46] : List UInt8)) ++ (dec r.ve))) (b := flg r.rd [114]) rfl rfl (Nat.le_trans (len_app (len_app (dec_len r.th) (Nat.le_refl _)) (dec_len r.ve)) (by decide)) (Nat.le_trans (flg_len r.rd 114) (by decide)) rfl ?_
     exact wpo_nil ⟨rfl, hi238⟩
    refine yll_cons rfl (fun w240 hi241 => ?_) ?_
    ·
     have hb242 := low0 hb107 hi241
     refine wpo_fieldAddr (o' := 3) fo_39_3 rfl rfl rfl ?_
     exact wpo_nil ⟨rfl, hi241⟩
    refine yll_cons rfl (fun w243 hi244 => ?_) ?_
    ·
     have hb245 := low0 hb107 hi244
     have k246 := (k112.grown0 hi244)
     refine wpo_load1 (v := .bool r.wr) ot_4 rfl (k246.cell rfl) rfl ?_
     exact wpo_nil ⟨rfl, hi244⟩
    refine yll_cons rfl (fun w247 hi248 => ?_) ?_
    ·
     have hb249 := low0 hb107 hi248
     refine wpo_call (vs := [.bool r.wr, .string ⟨([119] : List UInt8).toArray⟩]) gf_61 (args_cons rfl (args_cons rfl args_nil)) rfl (flag_c r.wr [119] _) ?_
     rintro _ w250 ⟨rfl, hg251⟩
     have hb252 := low0 hb249 hg251
     exact wpo_nil ⟨rfl, (grown_trans hi248 hg251)⟩
    refine yll_cons rfl (fun w253 hi254 => ?_) ?_
    ·
     have hb255 := low0 hb107 hi254
     refine wpo_cat (a := ((((dec r.th) ++ ([46] : List UInt8)) ++ (dec r.ve)) ++ (flg r.rd [114]))) (b := flg r.wr [119]) rfl rfl (Nat.le_trans (len_app (len_app (len_app (dec_len r.th) (Nat.le_refl _)) (dec_len r.ve)) (flg_len r.rd 114)) (by decide)) (Nat.le_trans (flg_len r.wr 119) (by decide)) rfl ?_
     exact wpo_nil ⟨rfl, hi254⟩
    refine yll_cons rfl (fun w256 hi257 => ?_) ?_
    ·
     have hb258 := low0 hb107 hi257
     refine wpo_fieldAddr (o' := 4) fo_39_4 rfl rfl rfl ?_
     exact wpo_nil ⟨rfl, hi257⟩
    refine yll_cons rfl (fun w259 hi260 => ?_) ?_
    ·
     have hb261 := low0 hb107 hi260
     have k262 := (k112.grown0 hi260)
     refine wpo_load1 (v := .bool r.wk) ot_4 rfl (k262.cell rfl) rfl ?_
     exact wpo_nil ⟨rfl, hi260⟩
    refine yll_cons rfl (fun w263 hi264 => ?_) ?_
    ·
     have hb265 := low0 hb107 hi264
     refine wpo_call (vs := [.bool r.wk, .string ⟨([107] : List UInt8).toArray⟩]) gf_61 (args_cons rfl (args_cons rfl args_nil)) rfl (flag_c r.wk [107] _) ?_
     rintro _ w266 ⟨rfl, hg267⟩
     have hb268 := low0 hb265 hg267
     exact wpo_nil ⟨rfl, (grown_trans hi264 hg267)⟩
    exact yll_nil
   ·
    intro w269 hi270
    have hb271 := low0 hb107 hi270
    refine wpo_cat (a := (((((dec r.th) ++ ([46] : List UInt8)) ++ (dec r.ve)) ++ (flg r.rd [114])) ++ (flg r.wr [119]))) (b := flg r.wk [107]) rfl rfl (Nat.le_trans (len_app (len_app (len_app (len_app (dec_len r.th) (Nat.le_refl _)) (dec_len r.ve)) (flg_len r.rd 114)) (flg_len r.wr 119)) (by decide)) (Nat.le_trans (flg_len r.wk 107) (by decide)) rfl ?_
    refine wpo_assign (v := .string ⟨((((((dec r.th) ++ ([46] : List UInt8)) ++ (dec r.ve)) ++ (flg r.rd [114])) ++ (flg r.wr [119])) ++ (flg r.wk [107])).toArray⟩) rfl rfl ?_
    refine wpo_nil ?_
    refine thn_n ?_
    refine wpf_ret ?_
    refine ⟨.string ⟨((((((dec r.th) ++ ([46] : List UInt8)) ++ (dec r.ve)) ++ (flg r.rd [114])) ++ (flg r.wr [119])) ++ (flg r.wk [107])).toArray⟩, res1 rfl rfl, ?_, hb271⟩
    exact congrArg (fun z : List UInt8 => Value.string ⟨z.toArray⟩) (((if_pos h110).trans (if_neg (of_decide_eq_false h113))).symm)

theorem thtx_c (m : MTh) (w : World) (hok : thingOk m.t = true) (hs : SlAt w m.sa 5 (m.t.slots.map Rt.cells)) (hq : SlAt w m.qa 1 (m.t.queue.map icell)) (hsl : m.t.slots.length ≤ 9223372036854775806) (hql : m.t.queue.length ≤ 9223372036854775806) : CallsR Tryd.prog 33 #[.agg #[.int .i64 m.t.kind, .int .i64 m.t.lab.s, .int .i64 m.t.lab.v, .int .i64 m.t.ve, .int .i64 m.t.num, .slice m.sa m.t.slots.length m.sc, .slice m.qa m.t.queue.length m.qc, .int .i64 m.t.to]] w (fun v w' => v = .string ⟨(thtx m.t).toArray⟩ ∧ w.grownBy w' none) := by
 refine calls_of_wpf (n := 69) Tryd.func33 rfl Tryd.ntmps33 rfl ?_
 have hb0 := World.grownBy.refl w none
 have hr7 := th_rng hok
 obtain ⟨hr1, hr2, hr3, hr4, hr5, hr6, hr8⟩ := hr7
 refine wpf_seq_region ?_
 refine wpo_box (v := .agg #[.int .i64 m.t.kind, .int .i64 m.t.lab.s, .int .i64 m.t.lab.v, .int .i64 m.t.ve, .int .i64 m.t.num, .slice m.sa m.t.slots.length m.sc, .slice m.qa m.t.queue.length m.qc, .int .i64 m.t.to]) (cs := #[.int .i64 m.t.kind, .int .i64 m.t.lab.s, .int .i64 m.t.lab.v, .int .i64 m.t.ve, .int .i64 m.t.num, .slice m.sa m.t.slots.length m.sc, .slice m.qa m.t.queue.length m.qc, .int .i64 m.t.to]) rfl rfl rfl ?_
 intro B101 w102 hN103
 have hlB101 := hN_ge hN103 hb0
 have hb104 := low0 hb0 hN103.grw
 refine wpo_assign (v := .string ⟨([] : List UInt8).toArray⟩) rfl rfl ?_
 refine wpo_nil ?_
 refine wpf_seq ?_
 refine wpf_drawI (m := 19) [[], [], [1], [0, 1, 2], [0, 1, 2, 3], [0, 1, 2, 3, 4], [], [6], [6, 7], [0, 1, 2, 3, 4, 5, 6, 7, 8], [0, 1, 2, 3, 4, 5, 6, 7, 8, 9], [], [11], [6, 7, 8, 11, 12], [0, 1, 2, 3, 4, 5, 6, 7, 8, 9, 10, 11, 12, 13], [0, 1, 2, 3, 4, 5, 6, 7, 8, 9, 10, 11, 12, 13, 14], [], [16], [6, 7, 8, 11, 12, 13, 16, 17], [0, 1, 2, 3, 4, 5, 6, 7, 8, 9, 10, 11, 12, 13, 14, 15, 16, 17, 18], [0, 1, 2, 3, 4, 5, 6, 7, 8, 9, 10, 11, 12, 13, 14, 15, 16, 17, 18, 19]] (fun S F w' => ∃ (B153 : Nat), w102.grownBy w' none ∧ F 1 = .pointer (some ⟨B101, 0, none⟩) ∧ F 2 = .string ⟨([] : List UInt8).toArray⟩ ∧ (S 0 = true → F 6 = .slice (some ⟨B153, 0, none⟩) 6 6 ∧ w.heap.size ≤ B153 ∧ Blk w' B153 9 (names6.flatMap scell).toArray ∧ B101 < B153 ∧ w102.heap.size ≤ B153) ∧ (S 3 = true → F 9 = .pointer (some ⟨B153, (m.t.kind).toNat * 1, none⟩)) ∧ Vals S F [(1, 7, .pointer (some ⟨B101, 0, none⟩)), (2, 8, .int .i64 m.t.kind), (4, 10, .string ⟨(kname m.t.kind).toArray⟩), (5, 11, .string ⟨((kname m.t.kind) ++ ([32] : List UInt8)).toArray⟩), (6, 12, .pointer (some ⟨B101, 1, none⟩)), (7, 13, .agg #[.int .i64 m.t.lab.s, .int .i64 m.t.lab.v]), (8, 14, .string ⟨(labtx m.t.lab).toArray⟩), (9, 15, .string ⟨(((kname m.t.kind) ++ ([32] : List UInt8)) ++ (labtx m.t.lab)).toArray⟩), (10, 16, .string ⟨((((kname m.t.kind) ++ ([32] : List UInt8)) ++ (labtx m.t.lab)) ++ ([32] : List UInt8)).toArray⟩), (11, 17, .pointer (some ⟨B101, 3, none⟩)), (12, 18, .int .i64 m.t.ve), (13, 19, .string ⟨(dec m.t.ve).toArray⟩), (14, 20, .string ⟨(((((kname m.t.kind) ++ ([32] : List UInt8)) ++ (labtx m.t.lab)) ++ ([32] : List UInt8)) ++ (dec m.t.ve)).toArray⟩), (15, 21, .string ⟨((((((kname m.t.kind) ++ ([32] : List UInt8)) ++ (labtx m.t.lab)) ++ ([32] : List UInt8)) ++ (dec m.t.ve)) ++ ([32] : List UInt8)).toArray⟩), (16, 22, .pointer (some ⟨B101, 4, none⟩)), (17, 23, .int .i64 m.t.num), (18, 24, .string ⟨(dec m.t.num).toArray⟩)]) mixed_ (by kernel_rfl) ⟨0, grown_drew _, rfl, rfl, not_begun, not_begun, vals_0 _⟩ ?_ ?_
 ·
  refine preL_cons (fun S F w169 hS hbef hcl hI => ?_) ?_
  ·
   obtain ⟨B153, hi170, e171, e172, c_0, c_3, hvs⟩ := hI
   have hb173 := low0 hb104 hi170
   refine wpo_buildSlice (ps := [(0, .string ⟨([] : List UInt8).toArray⟩), (1, .string ⟨([112, 97, 103, 101] : List UInt8).toArray⟩), (2, .string ⟨([110, 111, 100, 101] : List UInt8).toArray⟩), (3, .string ⟨([114, 117, 110] : List UInt8).toArray⟩), (4, .string ⟨([112, 105, 112, 101] : List UInt8).toArray⟩), (5, .string ⟨([103, 97, 116, 101] : List UInt8).toArray⟩)]) (e := 9) (cs := (names6.flatMap scell).toArray) (parts_cons rfl (parts_cons rfl (parts_cons rfl (parts_cons rfl (parts_cons rfl (parts_cons rfl parts_nil)))))) (fun _ => by kernel_rfl) rfl ?_
   intro B174 w175 hN176
   have hlB174 := hN_ge hN176 hb173
   have k177 := (hN103.blk.grown0 hi170)
   have lt_B101_B174 := hN_gtl hN176 (k177).lt
   have hb178 := low0 hb173 hN176.grw
   exact wpo_nil ⟨B174, (low0 hi170 hN176.grw), e171, e172, fun _ => ⟨rfl, hlB174, hN176.blk, lt_B101_B174, (Nat.le_trans hi170.size (Nat.le_of_eq hN176.eq.symm))⟩, fun h => undone 3 hS hcl rfl h, Vals.keep hvs rfl⟩
  refine preL_cons (fun S F w179 hS hbef hcl hI => ?_) ?_
  ·
   obtain ⟨B153, hi180, e181, e182, c_0, c_3, hvs⟩ := hI
   have hb183 := low0 hb104 hi180
   refine wpo_fieldAddr (o' := 0) fo_31_0 e181 rfl rfl ?_
   exact wpo_nil ⟨B153, hi180, e181, e182, c_0, fun h => undone 3 hS hcl rfl h, Vals.up 0 hvs rfl rfl rfl⟩
  refine preL_cons (fun S F w184 hS hbef hcl hI => ?_) ?_
  ·
   obtain ⟨B153, hi185, e186, e187, c_0, c_3, hvs⟩ := hI
   have hb188 := low0 hb104 hi185
   have ev189 := Vals.at 0 hvs rfl (ready_of 1 hbef rfl)
   have k190 := (hN103.blk.grown0 hi185)
   refine wpo_load1 (v := .int .i64 m.t.kind) ot_3 ev189 (k190.cell rfl) rfl ?_
   exact wpo_nil ⟨B153, hi185, e186, e187, c_0, fun h => undone 3 hS hcl rfl h, Vals.up 1 hvs rfl rfl rfl⟩
  refine preL_cons (fun S F w191 hS hbef hcl hI => ?_) ?_
  ·
   obtain ⟨B153, hi192, e193, e194, c_0, c_3, hvs⟩ := hI
   have hb195 := low0 hb104 hi192
   obtain ⟨e196, hlB153, kb_B153, lt_B101_B153, hk_B153⟩ := c_0 (ready_of 0 hbef rfl)
   have ev197 := Vals.at 0 hvs rfl (ready_of 1 hbef rfl)
   have ev198 := Vals.at 1 hvs rfl (ready_of 2 hbef rfl)
   refine wpo_indexAddr (o' := (m.t.kind).toNat * 1) es_73 e196 ev198 (by omega) (by omega) (by omega) rfl ?_
   exact wpo_nil ⟨B153, hi192, e193, e194, c_0, fun _ => rfl, Vals.keep hvs rfl⟩
  refine preL_cons (fun S F w199 hS hbef hcl hI => ?_) ?_
  ·
   obtain ⟨B153, hi200, e201, e202, c_0, c_3, hvs⟩ := hI
   have hb203 := low0 hb104 hi200
   obtain ⟨e204, hlB153, kb_B153, lt_B101_B153, hk_B153⟩ := c_0 (ready_of 0 hbef rfl)
   have ev205 := Vals.at 0 hvs rfl (ready_of 1 hbef rfl)
   have ev206 := Vals.at 1 hvs rfl (ready_of 2 hbef rfl)
   obtain e207 := c_3 (ready_of 3 hbef rfl)
   refine wpo_load1 (v := .string ⟨(kname m.t.kind).toArray⟩) ot_9 e207 ((rows_range wide_str kb_B153 (names6_get (k := m.t.kind) (by omega))) 0 _ rfl) rfl ?_
   exact wpo_nil ⟨B153, hi200, e201, e202, c_0, c_3, Vals.up 2 hvs rfl rfl rfl⟩
  refine preL_cons (fun S F w208 hS hbef hcl hI => ?_) ?_
  ·
   obtain ⟨B153, hi209, e210, e211, c_0, c_3, hvs⟩ := hI
   have hb212 := low0 hb104 hi209
   obtain ⟨e213, hlB153, kb_B153, lt_B101_B153, hk_B153⟩ := c_0 (ready_of 0 hbef rfl)
   have ev214 := Vals.at 0 hvs rfl (ready_of 1 hbef rfl)
   have ev215 := Vals.at 1 hvs rfl (ready_of 2 hbef rfl)
   obtain e216 := c_3 (ready_of 3 hbef rfl)
   have ev217 := Vals.at 2 hvs rfl (ready_of 4 hbef rfl)
   refine wpo_cat (a := kname m.t.kind) (b := ([32] : List UInt8)) ev217 rfl (Nat.le_trans (kname_len m.t.kind) (by decide)) (Nat.le_trans (Nat.le_refl _) (by decide)) rfl ?_
   exact wpo_nil ⟨B153, hi209, e210, e211, c_0, c_3, Vals.up 3 hvs rfl rfl rfl⟩
  refine preL_cons (fun S F w218 hS hbef hcl hI => ?_) ?_
  ·
   obtain ⟨B153, hi219, e220, e221, c_0, c_3, hvs⟩ := hI
   have hb222 := low0 hb104 hi219
   refine wpo_fieldAddr (o' := 1) fo_31_1 e220 rfl rfl ?_
   exact wpo_nil ⟨B153, hi219, e220, e221, c_0, c_3, Vals.up 4 hvs rfl rfl rfl⟩
  refine preL_cons (fun S F w223 hS hbef hcl hI => ?_) ?_
  ·
   obtain ⟨B153, hi224, e225, e226, c_0, c_3, hvs⟩ := hI
   have hb227 := low0 hb104 hi224
   have ev228 := Vals.at 4 hvs rfl (ready_of 6 hbef rfl)
   have k229 := (hN103.blk.grown0 hi224)
   refine wpo_loadn (vs := [.int .i64 m.t.lab.s, .int .i64 m.t.lab.v]) rt_27 ev228 rfl (k229.rangeL 1 2 rfl) rfl ?_
   exact wpo_nil ⟨B153, hi224, e225, e226, c_0, c_3, Vals.up 5 hvs rfl rfl rfl⟩
  refine preL_cons (fun S F w230 hS hbef hcl hI => ?_) ?_
  ·
   obtain ⟨B153, hi231, e232, e233, c_0, c_3, hvs⟩ := hI
   have hb234 := low0 hb104 hi231
   have ev235 := Vals.at 4 hvs rfl (ready_of 6 hbef rfl)
   have ev236 := Vals.at 5 hvs rfl (ready_of 7 hbef rfl)
   refine wpo_call (vs := [.agg #[.int .i64 m.t.lab.s, .int .i64 m.t.lab.v]]) gf_53 (args_cons ev236 args_nil) rfl (labtx_c m.t.lab _) ?_
   rintro _ w237 ⟨rfl, hg238⟩
   have hb239 := low0 hb234 hg238
   exact wpo_nil ⟨B153, (low0 hi231 hg238), e232, e233, fun h => let ⟨y240, y241, y242, y243, y244⟩ := c_0 h; ⟨y240, y241, (y242).grown0 hg238, y243, y244⟩, c_3, Vals.up 6 hvs rfl rfl rfl⟩
  refine preL_cons (fun S F w245 hS hbef hcl hI => ?_) ?_
  ·
   obtain ⟨B153, hi246, e247, e248, c_0, c_3, hvs⟩ := hI
   have hb249 := low0 hb104 hi246
   obtain ⟨e250, hlB153, kb_B153, lt_B101_B153, hk_B153⟩ := c_0 (ready_of 0 hbef rfl)
   have ev251 := Vals.at 0 hvs rfl (ready_of 1 hbef rfl)
   have ev252 := Vals.at 1 hvs rfl (ready_of 2 hbef rfl)
   obtain e253 := c_3 (ready_of 3 hbef rfl)
   have ev254 := Vals.at 2 hvs rfl (ready_of 4 hbef rfl)
   have ev255 := Vals.at 3 hvs rfl (ready_of 5 hbef rfl)
   have ev256 := Vals.at 4 hvs rfl (ready_of 6 hbef rfl)
   have ev257 := Vals.at 5 hvs rfl (ready_of 7 hbef rfl)
   have ev258 := Vals.at 6 hvs rfl (ready_of 8 hbef rfl)
   refine wpo_cat (a := ((kname m.t.kind) ++ ([32] : List UInt8))) (b := labtx m.t.lab) ev255 ev258 (Nat.le_trans (len_app (kname_len m.t.kind) (Nat.le_refl _)) (by decide)) (Nat.le_trans (labtx_len m.t.lab) (by decide)) rfl ?_
   exact wpo_nil ⟨B153, hi246, e247, e248, c_0, c_3, Vals.up 7 hvs rfl rfl rfl⟩
  refine preL_cons (fun S F w259 hS hbef hcl hI => ?_) ?_
  ·
   obtain ⟨B153, hi260, e261, e262, c_0, c_3, hvs⟩ := hI
   have hb263 := low0 hb104 hi260
   obtain ⟨e264, hlB153, kb_B153, lt_B101_B153, hk_B153⟩ := c_0 (ready_of 0 hbef rfl)
   have ev265 := Vals.at 0 hvs rfl (ready_of 1 hbef rfl)
   have ev266 := Vals.at 1 hvs rfl (ready_of 2 hbef rfl)
   obtain e267 := c_3 (ready_of 3 hbef rfl)
   have ev268 := Vals.at 2 hvs rfl (ready_of 4 hbef rfl)
   have ev269 := Vals.at 3 hvs rfl (ready_of 5 hbef rfl)
   have ev270 := Vals.at 4 hvs rfl (ready_of 6 hbef rfl)
   have ev271 := Vals.at 5 hvs rfl (ready_of 7 hbef rfl)
   have ev272 := Vals.at 6 hvs rfl (ready_of 8 hbef rfl)
   have ev273 := Vals.at 7 hvs rfl (ready_of 9 hbef rfl)
   refine wpo_cat (a := (((kname m.t.kind) ++ ([32] : List UInt8)) ++ (labtx m.t.lab))) (b := ([32] : List UInt8)) ev273 rfl (Nat.le_trans (len_app (len_app (kname_len m.t.kind) (Nat.le_refl _)) (labtx_len m.t.lab)) (by decide)) (Nat.le_trans (Nat.le_refl _) (by decide)) rfl ?_
   exact wpo_nil ⟨B153, hi260, e261, e262, c_0, c_3, Vals.up 8 hvs rfl rfl rfl⟩
  refine preL_cons (fun S F w274 hS hbef hcl hI => ?_) ?_
  ·
   obtain ⟨B153, hi275, e276, e277, c_0, c_3, hvs⟩ := hI
   have hb278 := low0 hb104 hi275
   refine wpo_fieldAddr (o' := 3) fo_31_2 e276 rfl rfl ?_
   exact wpo_nil ⟨B153, hi275, e276, e277, c_0, c_3, Vals.up 9 hvs rfl rfl rfl⟩
  refine preL_cons (fun S F w279 hS hbef hcl hI => ?_) ?_
  ·
   obtain ⟨B153, hi280, e281, e282, c_0, c_3, hvs⟩ := hI
   have hb283 := low0 hb104 hi280
   have ev284 := Vals.at 9 hvs rfl (ready_of 11 hbef rfl)
   have k285 := (hN103.blk.grown0 hi280)
   refine wpo_load1 (v := .int .i64 m.t.ve) ot_3 ev284 (k285.cell rfl) rfl ?_
   exact wpo_nil ⟨B153, hi280, e281, e282, c_0, c_3, Vals.up 10 hvs rfl rfl rfl⟩
  refine preL_cons (fun S F w286 hS hbef hcl hI => ?_) ?_
  ·
   obtain ⟨B153, hi287, e288, e289, c_0, c_3, hvs⟩ := hI
   have hb290 := low0 hb104 hi287
   have ev291 := Vals.at 4 hvs rfl (ready_of 6 hbef rfl)
   have ev292 := Vals.at 5 hvs rfl (ready_of 7 hbef rfl)
   have ev293 := Vals.at 6 hvs rfl (ready_of 8 hbef rfl)
   have ev294 := Vals.at 9 hvs rfl (ready_of 11 hbef rfl)
   have ev295 := Vals.at 10 hvs rfl (ready_of 12 hbef rfl)
   refine wpo_call (vs := [.int .i64 m.t.ve]) gf_32 (args_cons ev295 args_nil) rfl (dec_c m.t.ve (by omega) _) ?_
   rintro _ w296 ⟨rfl, hg297⟩
   have hb298 := low0 hb290 hg297
   exact wpo_nil ⟨B153, (low0 hi287 hg297), e288, e289, fun h => let ⟨y299, y300, y301, y302, y303⟩ := c_0 h; ⟨y299, y300, (y301).grown0 hg297, y302, y303⟩, c_3, Vals.up 11 hvs rfl rfl rfl⟩
  refine preL_cons (fun S F w304 hS hbef hcl hI => ?_) ?_
  ·
   obtain ⟨B153, hi305, e306, e307, c_0, c_3, hvs⟩ := hI
   have hb308 := low0 hb104 hi305
   obtain ⟨e309, hlB153, kb_B153, lt_B101_B153, hk_B153⟩ := c_0 (ready_of 0 hbef rfl)
   have ev310 := Vals.at 0 hvs rfl (ready_of 1 hbef rfl)
   have ev311 := Vals.at 1 hvs rfl (ready_of 2 hbef rfl)
   obtain e312 := c_3 (ready_of 3 hbef rfl)
   have ev313 := Vals.at 2 hvs rfl (ready_of 4 hbef rfl)
   have ev314 := Vals.at 3 hvs rfl (ready_of 5 hbef rfl)
   have ev315 := Vals.at 4 hvs rfl (ready_of 6 hbef rfl)
   have ev316 := Vals.at 5 hvs rfl (ready_of 7 hbef rfl)
   have ev317 := Vals.at 6 hvs rfl (ready_of 8 hbef rfl)
   have ev318 := Vals.at 7 hvs rfl (ready_of 9 hbef rfl)
   have ev319 := Vals.at 8 hvs rfl (ready_of 10 hbef rfl)
   have ev320 := Vals.at 9 hvs rfl (ready_of 11 hbef rfl)
   have ev321 := Vals.at 10 hvs rfl (ready_of 12 hbef rfl)
   have ev322 := Vals.at 11 hvs rfl (ready_of 13 hbef rfl)
   refine wpo_cat (a := ((((kname m.t.kind) ++ ([32] : List UInt8)) ++ (labtx m.t.lab)) ++ ([32] : List UInt8))) (b := dec m.t.ve) ev319 ev322 (Nat.le_trans (len_app (len_app (len_app (kname_len m.t.kind) (Nat.le_refl _)) (labtx_len m.t.lab)) (Nat.le_refl _)) (by decide)) (Nat.le_trans (dec_len m.t.ve) (by decide)) rfl ?_
   exact wpo_nil ⟨B153, hi305, e306, e307, c_0, c_3, Vals.up 12 hvs rfl rfl rfl⟩
  refine preL_cons (fun S F w323 hS hbef hcl hI => ?_) ?_
  ·
   obtain ⟨B153, hi324, e325, e326, c_0, c_3, hvs⟩ := hI
   have hb327 := low0 hb104 hi324
   obtain ⟨e328, hlB153, kb_B153, lt_B101_B153, hk_B153⟩ := c_0 (ready_of 0 hbef rfl)
   have ev329 := Vals.at 0 hvs rfl (ready_of 1 hbef rfl)
   have ev330 := Vals.at 1 hvs rfl (ready_of 2 hbef rfl)
   obtain e331 := c_3 (ready_of 3 hbef rfl)
   have ev332 := Vals.at 2 hvs rfl (ready_of 4 hbef rfl)
   have ev333 := Vals.at 3 hvs rfl (ready_of 5 hbef rfl)
   have ev334 := Vals.at 4 hvs rfl (ready_of 6 hbef rfl)
   have ev335 := Vals.at 5 hvs rfl (ready_of 7 hbef rfl)
   have ev336 := Vals.at 6 hvs rfl (ready_of 8 hbef rfl)
   have ev337 := Vals.at 7 hvs rfl (ready_of 9 hbef rfl)
   have ev338 := Vals.at 8 hvs rfl (ready_of 10 hbef rfl)
   have ev339 := Vals.at 9 hvs rfl (ready_of 11 hbef rfl)
   have ev340 := Vals.at 10 hvs rfl (ready_of 12 hbef rfl)
   have ev341 := Vals.at 11 hvs rfl (ready_of 13 hbef rfl)
   have ev342 := Vals.at 12 hvs rfl (ready_of 14 hbef rfl)
   refine wpo_cat (a := (((((kname m.t.kind) ++ ([32] : List UInt8)) ++ (labtx m.t.lab)) ++ ([32] : List UInt8)) ++ (dec m.t.ve))) (b := ([32] : List UInt8)) ev342 rfl (Nat.le_trans (len_app (len_app (len_app (len_app (kname_len m.t.kind) (Nat.le_refl _)) (labtx_len m.t.lab)) (Nat.le_refl _)) (dec_len m.t.ve)) (by decide)) (Nat.le_trans (Nat.le_refl _) (by decide)) rfl ?_
   exact wpo_nil ⟨B153, hi324, e325, e326, c_0, c_3, Vals.up 13 hvs rfl rfl rfl⟩
  refine preL_cons (fun S F w343 hS hbef hcl hI => ?_) ?_
  ·
   obtain ⟨B153, hi344, e345, e346, c_0, c_3, hvs⟩ := hI
   have hb347 := low0 hb104 hi344
   refine wpo_fieldAddr (o' := 4) fo_31_3 e345 rfl rfl ?_
   exact wpo_nil ⟨B153, hi344, e345, e346, c_0, c_3, Vals.up 14 hvs rfl rfl rfl⟩
  refine preL_cons (fun S F w348 hS hbef hcl hI => ?_) ?_
  ·
   obtain ⟨B153, hi349, e350, e351, c_0, c_3, hvs⟩ := hI
   have hb352 := low0 hb104 hi349
   have ev353 := Vals.at 14 hvs rfl (ready_of 16 hbef rfl)
   have k354 := (hN103.blk.grown0 hi349)
   refine wpo_load1 (v := .int .i64 m.t.num) ot_3 ev353 (k354.cell rfl) rfl ?_
   exact wpo_nil ⟨B153, hi349, e350, e351, c_0, c_3, Vals.up 15 hvs rfl rfl rfl⟩
  refine preL_cons (fun S F w355 hS hbef hcl hI => ?_) ?_
  ·
   obtain ⟨B153, hi356, e357, e358, c_0, c_3, hvs⟩ := hI
   have hb359 := low0 hb104 hi356
   have ev360 := Vals.at 4 hvs rfl (ready_of 6 hbef rfl)
   have ev361 := Vals.at 5 hvs rfl (ready_of 7 hbef rfl)
   have ev362 := Vals.at 6 hvs rfl (ready_of 8 hbef rfl)
   have ev363 := Vals.at 9 hvs rfl (ready_of 11 hbef rfl)
   have ev364 := Vals.at 10 hvs rfl (ready_of 12 hbef rfl)
   have ev365 := Vals.at 11 hvs rfl (ready_of 13 hbef rfl)
   have ev366 := Vals.at 14 hvs rfl (ready_of 16 hbef rfl)
   have ev367 := Vals.at 15 hvs rfl (ready_of 17 hbef rfl)
   refine wpo_call (vs := [.int .i64 m.t.num]) gf_32 (args_cons ev367 args_nil) rfl (dec_c m.t.num (by omega) _) ?_
   rintro _ w368 ⟨rfl, hg369⟩
   have hb370 := low0 hb359 hg369
   exact wpo_nil ⟨B153, (low0 hi356 hg369), e357, e358, fun h => let ⟨y371, y372, y373, y374, y375⟩ := c_0 h; ⟨y371, y372, (y373).grown0 hg369, y374, y375⟩, c_3, Vals.up 16 hvs rfl rfl rfl⟩
  exact preL_nil
 ·
  intro S F w376 hall hI
  obtain ⟨B153, hi377, e378, e379, c_0, c_3, hvs⟩ := hI
  have hb380 := low0 hb104 hi377
  obtain ⟨e381, hlB153, kb_B153, lt_B101_B153, hk_B153⟩ := c_0 (hall 0 (by decide))
  have ev382 := Vals.at 0 hvs rfl (hall 1 (by decide))
  have ev383 := Vals.at 1 hvs rfl (hall 2 (by decide))
  obtain e384 := c_3 (hall 3 (by decide))
  have ev385 := Vals.at 2 hvs rfl (hall 4 (by decide))
  have ev386 := Vals.at 3 hvs rfl (hall 5 (by decide))
  have ev387 := Vals.at 4 hvs rfl (hall 6 (by decide))
  have ev388 := Vals.at 5 hvs rfl (hall 7 (by decide))
  have ev389 := Vals.at 6 hvs rfl (hall 8 (by decide))
  have ev390 := Vals.at 7 hvs rfl (hall 9 (by decide))
  have ev391 := Vals.at 8 hvs rfl (hall 10 (by decide))
  have ev392 := Vals.at 9 hvs rfl (hall 11 (by decide))
  have ev393 := Vals.at 10 hvs rfl (hall 12 (by decide))
  have ev394 := Vals.at 11 hvs rfl (hall 13 (by decide))
  have ev395 := Vals.at 12 hvs rfl (hall 14 (by decide))
  have ev396 := Vals.at 13 hvs rfl (hall 15 (by decide))
  have ev397 := Vals.at 14 hvs rfl (hall 16 (by decide))
  have ev398 := Vals.at 15 hvs rfl (hall 17 (by decide))
  have ev399 := Vals.at 16 hvs rfl (hall 18 (by decide))
  refine wpo_cat (a := ((((((kname m.t.kind) ++ ([32] : List UInt8)) ++ (labtx m.t.lab)) ++ ([32] : List UInt8)) ++ (dec m.t.ve)) ++ ([32] : List UInt8))) (b := dec m.t.num) ev396 ev399 (Nat.le_trans (len_app (len_app (len_app (len_app (len_app (kname_len m.t.kind) (Nat.le_refl _)) (labtx_len m.t.lab)) (Nat.le_refl _)) (dec_len m.t.ve)) (Nat.le_refl _)) (by decide)) (Nat.le_trans (dec_len m.t.num) (by decide)) rfl ?_
  refine wpo_assign (v := .string ⟨(((((((kname m.t.kind) ++ ([32] : List UInt8)) ++ (labtx m.t.lab)) ++ ([32] : List UInt8)) ++ (dec m.t.ve)) ++ ([32] : List UInt8)) ++ (dec m.t.num)).toArray⟩) rfl rfl ?_
  refine wpo_nil ?_
  refine thn_n ?_
  refine wpf_seq ?_
  refine wpf_seq_region ?_
  refine wpo_assign (v := .int .i64 0) rfl rfl ?_
  refine wpo_nil ?_
  refine wpf_block ?_
  have k400 := (hN103.blk.grown0 hi377)
  refine wpf_loopN (fun mm f' w' => ∃ (k : Nat), mm = m.t.slots.length - k ∧ k ≤ m.t.slots.length ∧ f' 3 = .string ⟨(ah3 m.t k).toArray⟩ ∧ f' 4 = .int .i64 (k : Int) ∧ f' 1 = .pointer (some ⟨B101, 0, none⟩) ∧ f' 2 = .string ⟨([] : List UInt8).toArray⟩ ∧ w.grownBy w' none ∧ Blk w' B101 31 #[.int .i64 m.t.kind, .int .i64 m.t.lab.s, .int .i64 m.t.lab.v, .int .i64 m.t.ve, .int .i64 m.t.num, .slice m.sa m.t.slots.length m.sc, .slice m.qa m.t.queue.length m.qc, .int .i64 m.t.to]) (m.t.slots.length - 0) ⟨0, rfl, (Nat.zero_le _), (congrArg sv (by first | exact ah3_0 _ | exact ah3_s ‹_›)), rfl, e378, e379, hb380, k400⟩ ?_
  rintro mm f401 w402 ⟨k, hm404, hk, e405, e406, e407, e408, hb403, k409⟩
  refine wpf_seq ?_
  refine wpf_seq_region ?_
  refine wpo_move (v := .int .i64 (k : Int)) e406 rfl ?_
  refine wpo_fieldAddr (o' := 5) fo_31_4 e407 rfl rfl ?_
  refine wpo_load1 (v := .slice m.sa m.t.slots.length m.sc) ot_28 rfl (k409.cell rfl) rfl ?_
  refine wpo_len (by kernel_rfl) rfl rfl ?_
  refine wpo_lss (q := decide ((k : Int) < (m.t.slots.length : Int))) rfl rfl rfl rfl ?_
  refine wpo_nil ?_
  refine wpf_cond rfl (fun h410 => ?_) (fun h410 => ?_)
  ·
   have h411 := of_decide_eq_true h410
   refine wpf_skip ?_
   refine thn_n ?_
   refine wpf_seq ?_
   refine wpf_block ?_
   refine wpf_region ?_
   refine wpo_move (v := .string ⟨(ah3 m.t k).toArray⟩) e405 rfl ?_
   refine wpo_cat (a := ah3 m.t k) (b := ([32] : List UInt8)) rfl rfl (Nat.le_trans (ah3_len hr5) (by decide)) (Nat.le_trans (Nat.le_refl _) (by decide)) rfl ?_
   refine wpo_fieldAddr (o' := 5) fo_31_4 e407 rfl rfl ?_
   refine wpo_load1 (v := .slice m.sa m.t.slots.length m.sc) ot_28 rfl (k409.cell rfl) rfl ?_
   refine wpo_move (v := .int .i64 (k : Int)) e406 rfl ?_
   obtain ⟨x412, hx413⟩ := get_lt (l := m.t.slots) (i := k) (by omega)
   obtain ⟨b414, q415, o416, ha417, ho418, hr419⟩ := SlAt.at hs (map_get hx413)
   refine wpo_indexE es_28 rfl rfl ha417 ho418 (by omega) (by omega) rfl ?_
   refine wpo_loadn (vs := [.int .i64 x412.th, .int .i64 x412.ve, .bool x412.rd, .bool x412.wr, .bool x412.wk]) rt_39 rfl rfl (range_sub (range_low hr419 hb403) 0 5 rfl) rfl ?_
   refine wpo_call (vs := [.agg #[.int .i64 x412.th, .int .i64 x412.ve, .bool x412.rd, .bool x412.wr, .bool x412.wk]]) gf_54 (args_cons rfl args_nil) rfl (rtx_c x412 _) ?_
   rintro _ w420 ⟨rfl, hg421⟩
   have hb422 := low0 hb403 hg421
   refine wpo_cat (a := ((ah3 m.t k) ++ ([32] : List UInt8))) (b := rtx x412) rfl rfl (Nat.le_trans (len_app (ah3_len hr5) (Nat.le_refl _)) (by decide)) (Nat.le_trans (rtx_len x412) (by decide)) rfl ?_
   refine wpo_assign (v := .string ⟨(((ah3 m.t k) ++ ([32] : List UInt8)) ++ (rtx x412)).toArray⟩) rfl rfl ?_
   refine wpo_nil ?_
   refine blk_n ?_
   refine thn_n ?_
   refine wpf_region ?_
   refine wpo_move (v := .int .i64 (k : Int)) e406 rfl ?_
   refine wpo_add (c := (k : Int) + 1) rfl rfl (by omega) (by omega) (by omega) rfl ?_
   refine wpo_assign (v := .int .i64 ((k : Int) + 1)) rfl rfl ?_
   refine wpo_nil ?_
   refine thn_n ?_
   have k423 := (k409.grown0 hg421)
   exact ⟨m.t.slots.length - (k + 1), by omega, (k + 1), rfl, (by omega), (congrArg sv (by first | exact ah3_0 _ | exact ah3_s ‹_›)), rfl, e407, e408, hb422, k423⟩
  ·
   have h424 := of_decide_eq_false h410
   refine wpf_exit ?_
   refine thn_e ?_
   refine thn_e ?_
   refine blk_e ?_
   refine thn_n ?_
   refine wpf_seq ?_
   refine wpf_seq_region ?_
   refine wpo_assign (v := .int .i64 0) rfl rfl ?_
   refine wpo_nil ?_
   refine wpf_block ?_
   refine wpf_loopN (fun mm f' w' => ∃ (j : Nat), mm = m.t.queue.length - j ∧ j ≤ m.t.queue.length ∧ f' 3 = .string ⟨(bh3 m.t j).toArray⟩ ∧ f' 5 = .int .i64 (j : Int) ∧ f' 1 = .pointer (some ⟨B101, 0, none⟩) ∧ f' 2 = .string ⟨([] : List UInt8).toArray⟩ ∧ w.grownBy w' none ∧ Blk w' B101 31 #[.int .i64 m.t.kind, .int .i64 m.t.lab.s, .int .i64 m.t.lab.v, .int .i64 m.t.ve, .int .i64 m.t.num, .slice m.sa m.t.slots.length m.sc, .slice m.qa m.t.queue.length m.qc, .int .i64 m.t.to]) (m.t.queue.length - 0) ⟨0, rfl, (Nat.zero_le _), (e405.trans (congrArg sv (by first | exact bh3_0 (by omega) (by omega) | exact bh3_s ‹_›))), rfl, e407, e408, hb403, k409⟩ ?_
   rintro mm f425 w426 ⟨j, hm428, hj, e429, e430, e431, e432, hb427, k433⟩
   refine wpf_seq ?_
   refine wpf_seq_region ?_
   refine wpo_move (v := .int .i64 (j : Int)) e430 rfl ?_
   refine wpo_fieldAddr (o' := 6) fo_31_5 e431 rfl rfl ?_
   refine wpo_load1 (v := .slice m.qa m.t.queue.length m.qc) ot_29 rfl (k433.cell rfl) rfl ?_
   refine wpo_len (by kernel_rfl) rfl rfl ?_
   refine wpo_lss (q := decide ((j : Int) < (m.t.queue.length : Int))) rfl rfl rfl rfl ?_
   refine wpo_nil ?_
   refine wpf_cond rfl (fun h434 => ?_) (fun h434 => ?_)
   ·
    have h435 := of_decide_eq_true h434
    refine wpf_skip ?_
    refine thn_n ?_
    refine wpf_seq ?_
    refine wpf_block ?_
    refine wpf_region ?_
    refine wpo_move (v := .string ⟨(bh3 m.t j).toArray⟩) e429 rfl ?_
    refine wpo_cat (a := bh3 m.t j) (b := ([32, 60] : List UInt8)) rfl rfl (Nat.le_trans (bh3_len hr5 hr6) (by decide)) (Nat.le_trans (Nat.le_refl _) (by decide)) rfl ?_
    refine wpo_fieldAddr (o' := 6) fo_31_5 e431 rfl rfl ?_
    refine wpo_load1 (v := .slice m.qa m.t.queue.length m.qc) ot_29 rfl (k433.cell rfl) rfl ?_
    refine wpo_move (v := .int .i64 (j : Int)) e430 rfl ?_
    obtain ⟨x436, hx437⟩ := get_lt (l := m.t.queue) (i := j) (by omega)
    obtain ⟨b438, q439, o440, ha441, ho442, hr443⟩ := SlAt.at hq (map_get hx437)
    refine wpo_indexE es_29 rfl rfl ha441 ho442 (by omega) (by omega) rfl ?_
    refine wpo_load1 (v := .int .i64 x436) ot_3 rfl ((range_low hr443 hb427) 0 _ rfl) rfl ?_
    refine wpo_call (vs := [.int .i64 x436]) gf_32 (args_cons rfl args_nil) rfl (dec_c x436 (by have hq8 := hr8 _ (List.mem_of_getElem? hx437); omega) _) ?_
    rintro _ w444 ⟨rfl, hg445⟩
    have hb446 := low0 hb427 hg445
    refine wpo_cat (a := ((bh3 m.t j) ++ ([32, 60] : List UInt8))) (b := dec x436) rfl rfl (Nat.le_trans (len_app (bh3_len hr5 hr6) (Nat.le_refl _)) (by decide)) (Nat.le_trans (dec_len x436) (by decide)) rfl ?_
    refine wpo_assign (v := .string ⟨(((bh3 m.t j) ++ ([32, 60] : List UInt8)) ++ (dec x436)).toArray⟩) rfl rfl ?_
    refine wpo_nil ?_
    refine blk_n ?_
    refine thn_n ?_
    refine wpf_region ?_
    refine wpo_move (v := .int .i64 (j : Int)) e430 rfl ?_
    refine wpo_add (c := (j : Int) + 1) rfl rfl (by omega) (by omega) (by omega) rfl ?_
    refine wpo_assign (v := .int .i64 ((j : Int) + 1)) rfl rfl ?_
    refine wpo_nil ?_
    refine thn_n ?_
    have k447 := (k433.grown0 hg445)
    exact ⟨m.t.queue.length - (j + 1), by omega, (j + 1), rfl, (by omega), (congrArg sv (by first | exact bh3_0 (by omega) (by omega) | exact bh3_s ‹_›)), rfl, e431, e432, hb446, k447⟩
   ·
    have h448 := of_decide_eq_false h434
    refine wpf_exit ?_
    refine thn_e ?_
    refine thn_e ?_
    refine blk_e ?_
    refine thn_n ?_
    refine wpf_seq ?_
    refine wpf_seq_region ?_
    refine wpo_fieldAddr (o' := 0) fo_31_0 e431 rfl rfl ?_
    refine wpo_load1 (v := .int .i64 m.t.kind) ot_3 rfl (k433.cell rfl) rfl ?_
    refine wpo_eql (q := decide (m.t.kind = 5)) rfl rfl rfl rfl ?_
    refine wpo_nil ?_
    refine wpf_cond rfl (fun h449 => ?_) (fun h449 => ?_)
    ·
     have h450 := of_decide_eq_true h449
     refine wpf_region ?_
     refine wpo_move (v := .string ⟨(bh3 m.t j).toArray⟩) e429 rfl ?_
     refine wpo_cat (a := bh3 m.t j) (b := ([32, 62] : List UInt8)) rfl rfl (Nat.le_trans (bh3_len hr5 hr6) (by decide)) (Nat.le_trans (Nat.le_refl _) (by decide)) rfl ?_
     refine wpo_fieldAddr (o' := 7) fo_31_6 e431 rfl rfl ?_
     refine wpo_load1 (v := .int .i64 m.t.to) ot_3 rfl (k433.cell rfl) rfl ?_
     refine wpo_call (vs := [.int .i64 m.t.to]) gf_32 (args_cons rfl args_nil) rfl (dec_c m.t.to (by omega) _) ?_
     rintro _ w451 ⟨rfl, hg452⟩
     have hb453 := low0 hb427 hg452
     refine wpo_cat (a := ((bh3 m.t j) ++ ([32, 62] : List UInt8))) (b := dec m.t.to) rfl rfl (Nat.le_trans (len_app (bh3_len hr5 hr6) (Nat.le_refl _)) (by decide)) (Nat.le_trans (dec_len m.t.to) (by decide)) rfl ?_
     refine wpo_assign (v := .string ⟨(((bh3 m.t j) ++ ([32, 62] : List UInt8)) ++ (dec m.t.to)).toArray⟩) rfl rfl ?_
     refine wpo_nil ?_
     refine thn_n ?_
     refine wpf_seq_region ?_
     refine wpo_move (v := .string ⟨(((bh3 m.t j) ++ ([32, 62] : List UInt8)) ++ (dec m.t.to)).toArray⟩) rfl rfl ?_
     refine wpo_cat (a := (((bh3 m.t j) ++ ([32, 62] : List UInt8)) ++ (dec m.t.to))) (b := ([10] : List UInt8)) rfl rfl (Nat.le_trans (len_app (len_app (bh3_len hr5 hr6) (Nat.le_refl _)) (dec_len m.t.to)) (by decide)) (Nat.le_trans (Nat.le_refl _) (by decide)) rfl ?_
     refine wpo_assign (v := .string ⟨((((bh3 m.t j) ++ ([32, 62] : List UInt8)) ++ (dec m.t.to)) ++ ([10] : List UInt8)).toArray⟩) rfl rfl ?_
     refine wpo_nil ?_
     refine wpf_ret ?_
     refine ⟨.string ⟨((((bh3 m.t j) ++ ([32, 62] : List UInt8)) ++ (dec m.t.to)) ++ ([10] : List UInt8)).toArray⟩, res1 rfl rfl, ?_, hb453⟩
     exact congrArg sv (by unfold thtx; rw [if_pos (of_decide_eq_true h449), bh3_all (by omega) (by omega)])
    ·
     have h454 := of_decide_eq_false h449
     refine wpf_skip ?_
     refine thn_n ?_
     refine wpf_seq_region ?_
     refine wpo_move (v := .string ⟨(bh3 m.t j).toArray⟩) e429 rfl ?_
     refine wpo_cat (a := bh3 m.t j) (b := ([10] : List UInt8)) rfl rfl (Nat.le_trans (bh3_len hr5 hr6) (by decide)) (Nat.le_trans (Nat.le_refl _) (by decide)) rfl ?_
     refine wpo_assign (v := .string ⟨((bh3 m.t j) ++ ([10] : List UInt8)).toArray⟩) rfl rfl ?_
     refine wpo_nil ?_
     refine wpf_ret ?_
     refine ⟨.string ⟨((bh3 m.t j) ++ ([10] : List UInt8)).toArray⟩, res1 rfl rfl, ?_, hb427⟩
     exact congrArg sv (by unfold thtx; rw [if_neg (of_decide_eq_false h449), bh3_all (by omega) (by omega)])

theorem l3Text_c (w : World) (ms : List MTh) (hT : tableOk (tabT ms) = true) (a : Option Addr) (c : Nat) (ht : TabAt w a ms) (hlen : TabLen ms) (hn : ms.length ≤ 1048576) : CallsR Tryd.prog 16 #[.slice a ms.length c] w (fun v w' => v = .string ⟨(tabtx (tabT ms)).toArray⟩ ∧ w.grownBy w' none) := by
 refine calls_of_wpf (n := 24) Tryd.func16 rfl Tryd.ntmps16 rfl ?_
 have hb0 := World.grownBy.refl w none
 have hml := tab_len hT
 refine wpf_seq_region ?_
 refine wpo_assign (v := .string ⟨([] : List UInt8).toArray⟩) rfl rfl ?_
 refine wpo_nil ?_
 refine wpf_seq_region ?_
 refine wpo_assign (v := .string ⟨([] : List UInt8).toArray⟩) rfl rfl ?_
 refine wpo_nil ?_
 refine wpf_seq ?_
 refine wpf_seq_region ?_
 refine wpo_assign (v := .int .i64 0) rfl rfl ?_
 refine wpo_nil ?_
 refine wpf_block ?_
 refine wpf_loopN (fun mm f' w' => ∃ (k : Nat), mm = ms.length - k ∧ k ≤ ms.length ∧ f' 3 = .string ⟨(ttx (tabT ms) k).toArray⟩ ∧ f' 4 = .int .i64 (k : Int) ∧ f' 0 = .slice a ms.length c ∧ f' 2 = .string ⟨([] : List UInt8).toArray⟩ ∧ w.grownBy w' none) (ms.length - 0) ⟨0, rfl, (Nat.zero_le _), (congrArg sv (by first | rfl | exact ttx_s (by omega))), rfl, rfl, rfl, hb0⟩ ?_
 rintro mm f101 w102 ⟨k, hm104, hk, e105, e106, e107, e108, hb103⟩
 refine wpf_seq ?_
 refine wpf_seq_region ?_
 refine wpo_move (v := .int .i64 (k : Int)) e106 rfl ?_
 refine wpo_move (v := .slice a ms.length c) e107 rfl ?_
 refine wpo_len (by kernel_rfl) rfl rfl ?_
 refine wpo_lss (q := decide ((k : Int) < (ms.length : Int))) rfl rfl rfl rfl ?_
 refine wpo_nil ?_
 refine wpf_cond rfl (fun h109 => ?_) (fun h109 => ?_)
 ·
  have h110 := of_decide_eq_true h109
  refine wpf_skip ?_
  refine thn_n ?_
  refine wpf_seq ?_
  refine wpf_block ?_
  obtain ⟨b146, q147, o148, ha149, ho150, hr151⟩ := SlAt.at (TabAt.low ht hb103).1 (map_get (mAt_get (show k < ms.length by omega)))
  have hle152 := TabLen.at hlen (mAt_get (show k < ms.length by omega))
  refine wpf_draw (m := 11) (vals := [(11, .string ⟨(ttx (tabT ms) k).toArray⟩), (12, .int .i64 (k : Int)), (13, .int .i64 ((k : Int) + 1)), (14, .string ⟨(dec ((k : Int) + 1)).toArray⟩), (15, .string ⟨((ttx (tabT ms) k) ++ (dec ((k : Int) + 1))).toArray⟩), (16, .string ⟨(((ttx (tabT ms) k) ++ (dec ((k : Int) + 1))) ++ ([32] : List UInt8)).toArray⟩), (17, .slice a ms.length c), (18, .int .i64 (k : Int)), (19, .pointer (some ⟨b146, o148, none⟩)), (20, .agg #[.int .i64 ((mAt ms k).t.kind), .int .i64 ((mAt ms k).t.lab.s), .int .i64 ((mAt ms k).t.lab.v), .int .i64 ((mAt ms k).t.ve), .int .i64 ((mAt ms k).t.num), .slice ((mAt ms k).sa) ((mAt ms k).t.slots.length) ((mAt ms k).sc), .slice ((mAt ms k).qa) ((mAt ms k).t.queue.length) ((mAt ms k).qc), .int .i64 ((mAt ms k).t.to)]), (21, .string ⟨(thtx (mAt ms k).t).toArray⟩)]) (fun w' => w102.grownBy w' none) mixed_ (by kernel_rfl) (grown_drew _) ?_ ?_
  ·
   refine yll_cons rfl (fun w162 hi163 => ?_) ?_
   ·
    have hb164 := low0 hb103 hi163
    refine wpo_move (v := .string ⟨(ttx (tabT ms) k).toArray⟩) e105 rfl ?_
    exact wpo_nil ⟨rfl, hi163⟩
   refine yll_cons rfl (fun w165 hi166 => ?_) ?_
   ·
    have hb167 := low0 hb103 hi166
    refine wpo_move (v := .int .i64 (k : Int)) e106 rfl ?_
    exact wpo_nil ⟨rfl, hi166⟩
   refine yll_cons rfl (fun w168 hi169 => ?_) ?_
   ·
    have hb170 := low0 hb103 hi169
    refine wpo_add (c := (k : Int) + 1) rfl rfl (by omega) (by omega) (by omega) rfl ?_
    exact wpo_nil ⟨rfl, hi169⟩
   refine yll_cons rfl (fun w171 hi172 => ?_) ?_
   ·
    have hb173 := low0 hb103 hi172
    refine wpo_call (vs := [.int .i64 ((k : Int) + 1)]) gf_32 (args_cons rfl args_nil) rfl (dec_c ((k : Int) + 1) (by omega) _) ?_
    rintro _ w174 ⟨rfl, hg175⟩
    have hb176 := low0 hb173 hg175
    exact wpo_nil ⟨rfl, (grown_trans hi172 hg175)⟩
   refine yll_cons rfl (fun w177 hi178 => ?_) ?_
   ·
    have hb179 := low0 hb103 hi178
    refine wpo_cat (a := ttx (tabT ms) k) (b := dec ((k : Int) + 1)) rfl rfl (Nat.le_trans (ttx_le hT hk) (by decide)) (Nat.le_trans (dec_len ((k : Int) + 1)) (by decide)) rfl ?_
    exact wpo_nil ⟨rfl, hi178⟩
   refine yll_cons rfl (fun w180 hi181 => ?_) ?_
   ·
    have hb182 := low0 hb103 hi181
    refine wpo_cat (a := (ttx (tabT ms) k) ++ (dec ((k : Int) + 1))) (b := ([32] : List UInt8)) rfl rfl (Nat.le_trans (len_app (ttx_le hT hk) (dec_len ((k : Int) + 1))) (by decide)) (Nat.le_trans (Nat.le_refl _) (by decide)) rfl ?_
    exact wpo_nil ⟨rfl, hi181⟩
   refine yll_cons rfl (fun w183 hi184 => ?_) ?_
   ·
    have hb185 := low0 hb103 hi184
    refine wpo_move (v := .slice a ms.length c) e107 rfl ?_
    exact wpo_nil ⟨rfl, hi184⟩
   refine yll_cons rfl (fun w186 hi187 => ?_) ?_
   ·
    have hb188 := low0 hb103 hi187
    refine wpo_move (v := .int .i64 (k : Int)) e106 rfl ?_
    exact wpo_nil ⟨rfl, hi187⟩
   refine yll_cons rfl (fun w189 hi190 => ?_) ?_
   ·
    have hb191 := low0 hb103 hi190
    refine wpo_indexE es_23 rfl rfl ha149 ho150 (by omega) (by omega) rfl ?_
    exact wpo_nil ⟨rfl, hi190⟩
   refine yll_cons rfl (fun w192 hi193 => ?_) ?_
   ·
    have hb194 := low0 hb103 hi193
    refine wpo_loadn (vs := [.int .i64 ((mAt ms k).t.kind), .int .i64 ((mAt ms k).t.lab.s), .int .i64 ((mAt ms k).t.lab.v), .int .i64 ((mAt ms k).t.ve), .int .i64 ((mAt ms k).t.num), .slice ((mAt ms k).sa) ((mAt ms k).t.slots.length) ((mAt ms k).sc), .slice ((mAt ms k).qa) ((mAt ms k).t.queue.length) ((mAt ms k).qc), .int .i64 ((mAt ms k).t.to)]) rt_31 rfl rfl (range_sub (range_low hr151 hi193) 0 8 rfl) rfl ?_
    exact wpo_nil ⟨rfl, hi193⟩
   refine yll_cons rfl (fun w195 hi196 => ?_) ?_
   ·
    have hb197 := low0 hb103 hi196
    refine wpo_call (vs := [.agg #[.int .i64 ((mAt ms k).t.kind), .int .i64 ((mAt ms k).t.lab.s), .int .i64 ((mAt ms k).t.lab.v), .int .i64 ((mAt ms k).t.ve), .int .i64 ((mAt ms k).t.num), .slice ((mAt ms k).sa) ((mAt ms k).t.slots.length) ((mAt ms k).sc), .slice ((mAt ms k).qa) ((mAt ms k).t.queue.length) ((mAt ms k).qc), .int .i64 ((mAt ms k).t.to)]]) gf_33 (args_cons rfl args_nil) rfl (thtx_c (mAt ms k) _ (tab_thing hT (i := k) (by omega)) (TabAt.th (TabAt.low ht hb197) (mAt_get (show k < ms.length by omega))).1 (TabAt.th (TabAt.low ht hb197) (mAt_get (show k < ms.length by omega))).2.1 (by first | omega | exact Nat.le_of_ble_eq_true rfl | (simp only [List.length_nil, List.length_cons, List.length_append, List.length_replicate]; omega)) (by first | omega | exact Nat.le_of_ble_eq_true rfl | (simp only [List.length_nil, List.length_cons, List.length_append, List.length_replicate]; omega))) ?_
    rintro _ w198 ⟨rfl, hg199⟩
    have hb200 := low0 hb197 hg199
    exact wpo_nil ⟨rfl, (grown_trans hi196 hg199)⟩
   exact yll_nil
  ·
   intro w201 hi202
   have hb203 := low0 hb103 hi202
   refine wpo_cat (a := (((ttx (tabT ms) k) ++ (dec ((k : Int) + 1))) ++ ([32] : List UInt8))) (b := thtx (mAt ms k).t) rfl rfl (Nat.le_trans (len_app (len_app (ttx_le hT hk) (dec_len ((k : Int) + 1))) (Nat.le_refl _)) (by decide)) (Nat.le_trans (thtx_len (tab_thing hT (i := k) (by omega))) (by decide)) rfl ?_
   refine wpo_assign (v := .string ⟨((((ttx (tabT ms) k) ++ (dec ((k : Int) + 1))) ++ ([32] : List UInt8)) ++ (thtx (mAt ms k).t)).toArray⟩) rfl rfl ?_
   refine wpo_nil ?_
   refine blk_n ?_
   refine thn_n ?_
   refine wpf_region ?_
   refine wpo_move (v := .int .i64 (k : Int)) e106 rfl ?_
   refine wpo_add (c := (k : Int) + 1) rfl rfl (by omega) (by omega) (by omega) rfl ?_
   refine wpo_assign (v := .int .i64 ((k : Int) + 1)) rfl rfl ?_
   refine wpo_nil ?_
   refine thn_n ?_
   exact ⟨ms.length - (k + 1), by omega, (k + 1), rfl, (by omega), (congrArg sv (by first | rfl | exact ttx_s (by omega))), rfl, e107, e108, hb203⟩
 ·
  have h204 := of_decide_eq_false h109
  refine wpf_exit ?_
  refine thn_e ?_
  refine thn_e ?_
  refine blk_e ?_
  refine thn_n ?_
  refine wpf_seq_region ?_
  refine wpo_move (v := .string ⟨(ttx (tabT ms) k).toArray⟩) e105 rfl ?_
  refine wpo_assign (v := .string ⟨(ttx (tabT ms) k).toArray⟩) rfl rfl ?_
  refine wpo_nil ?_
  refine wpf_ret ?_
  refine ⟨.string ⟨(ttx (tabT ms) k).toArray⟩, res1 rfl rfl, ?_, hb103⟩
  exact congrArg (fun z : List UInt8 => Value.string ⟨z.toArray⟩) ((tabtx_y hT (by omega) (by omega)))

theorem stabtx_c (w : World) (ms : List MTh) (a : Option Addr) (c : Nat) (ht : TabAt w a ms) (hlen : TabLen ms) (hn : ms.length ≤ 1048576) : CallsR Tryd.prog 7 #[.slice a ms.length c] w (fun v w' => v = .string ⟨(tabtx (tabT ms)).toArray⟩ ∧ w.grownBy w' none) := by
 refine calls_of_wpf (n := 8) Tryd.func7 rfl Tryd.ntmps7 rfl ?_
 have hb0 := World.grownBy.refl w none
 refine wpf_seq_region ?_
 refine wpo_assign (v := .string ⟨([] : List UInt8).toArray⟩) rfl rfl ?_
 refine wpo_nil ?_
 refine wpf_seq ?_
 refine wpf_seq_region ?_
 refine wpo_move (v := .slice a ms.length c) rfl rfl ?_
 refine wpo_call (vs := [.slice a ms.length c]) gf_15 (args_cons rfl args_nil) rfl (sTableOk_c  _ ms _ _ (TabAt.low ht hb0) hlen (by omega)) ?_
 rintro _ w101 ⟨rfl, hg102⟩
 have hb103 := low0 hb0 hg102
 refine wpo_not (b' := !tableOk (tabT ms)) rfl rfl rfl ?_
 refine wpo_nil ?_
 refine wpf_cond rfl (fun h104 => ?_) (fun h104 => ?_)
 ·
  have h105 := nt_t h104
  refine wpf_seq_region ?_
  refine wpo_assign (v := .string ⟨([] : List UInt8).toArray⟩) rfl rfl ?_
  refine wpo_nil ?_
  refine wpf_ret ?_
  refine thn_r ?_
  refine ⟨.string ⟨([] : List UInt8).toArray⟩, res1 rfl rfl, ?_, hb103⟩
  exact congrArg (fun z : List UInt8 => Value.string ⟨z.toArray⟩) ((tabtx_n h105))
 ·
  have h106 := nt_f h104
  refine wpf_skip ?_
  refine thn_n ?_
  refine wpf_seq_region ?_
  refine wpo_move (v := .slice a ms.length c) rfl rfl ?_
  refine wpo_call (vs := [.slice a ms.length c]) gf_16 (args_cons rfl args_nil) rfl (l3Text_c _ ms h106 _ _ (TabAt.low ht hb103) hlen (by omega)) ?_
  rintro _ w107 ⟨rfl, hg108⟩
  have hb109 := low0 hb103 hg108
  refine wpo_assign (v := .string ⟨(tabtx (tabT ms)).toArray⟩) rfl rfl ?_
  refine wpo_nil ?_
  refine wpf_ret ?_
  refine ⟨.string ⟨(tabtx (tabT ms)).toArray⟩, res1 rfl rfl, ?_, hb109⟩
  exact congrArg (fun z : List UInt8 => Value.string ⟨z.toArray⟩) (rfl)

end Go.Proofs.YtemimomfjapgiaaDoor
