/- Walks, printed by a program of mine (gen.py) out of the functions. -/
import Derived.Test.YtemimomfjapgiaaDoorST1
import Derived.Test.YtemimomfjapgiaaDoorSW
import Derived.Test.YtemimomfjapgiaaDoorTO
namespace Go.Proofs.YtemimomfjapgiaaDoor
open Go.RowKit Go.Dw
set_option maxRecDepth 100000
set_option maxHeartbeats 4000000
set_option linter.unusedSimpArgs false
set_option linter.unusedVariables false
theorem fo_90_0 : fieldOff Tryd.prog 90 0 = some 0 := by kernel_rfl
theorem gf_46 : goFn Tryd.prog 46 = true := by kernel_rfl
theorem gf_47 : goFn Tryd.prog 47 = true := by kernel_rfl
theorem gf_48 : goFn Tryd.prog 48 = true := by kernel_rfl
theorem gf_49 : goFn Tryd.prog 49 = true := by kernel_rfl
theorem gf_50 : goFn Tryd.prog 50 = true := by kernel_rfl
theorem gf_59 : goFn Tryd.prog 59 = true := by kernel_rfl
theorem gf_93 : goFn Tryd.prog 93 = true := by kernel_rfl
theorem gf_95 : goFn Tryd.prog 95 = true := by kernel_rfl
theorem mk_73 : mkTy Tryd.prog 73 = some (9, 1, 16, some (.string ⟨([] : List UInt8).toArray⟩)) := by kernel_rfl
theorem kname_c (k : Int) (w : World) : CallsR Tryd.prog 47 #[.int .i64 k] w (fun v w' => v = .string ⟨(kname k).toArray⟩ ∧ w.grownBy w' none) := by
 refine calls_of_wpf (n := 14) Tryd.func47 rfl Tryd.ntmps47 rfl ?_
 have hb0 := World.grownBy.refl w none
 refine wpf_seq_region ?_
 refine wpo_assign (v := .string ⟨([] : List UInt8).toArray⟩) rfl rfl ?_
 refine wpo_nil ?_
 refine wpf_seq ?_
 refine wpf_seq_region ?_
 refine wpo_move (v := .int .i64 k) rfl rfl ?_
 refine wpo_nil ?_
 refine wpf_block ?_
 refine wpf_seq_region ?_
 refine wpo_eql (q := decide (k = 1)) rfl rfl rfl rfl ?_
 refine wpo_assign (v := .bool (decide (k = 1))) rfl rfl ?_
 refine wpo_nil ?_
 refine wpf_cond rfl (fun h101 => ?_) (fun h101 => ?_)
 ·
  have h102 := of_decide_eq_true h101
  refine wpf_seq_region ?_
  refine wpo_assign (v := .string ⟨([112, 97, 103, 101] : List UInt8).toArray⟩) rfl rfl ?_
  refine wpo_nil ?_
  refine wpf_ret ?_
  refine blk_r ?_
  refine thn_r ?_
  refine ⟨.string ⟨([112, 97, 103, 101] : List UInt8).toArray⟩, res1 rfl rfl, ?_, hb0⟩
  exact congrArg (fun z : List UInt8 => Value.string ⟨z.toArray⟩) ((by unfold kname; rw [if_pos (of_decide_eq_true h101)]))
 ·
  have h103 := of_decide_eq_false h101
  refine wpf_seq_region ?_
  refine wpo_eql (q := decide (k = 2)) rfl rfl rfl rfl ?_
  refine wpo_assign (v := .bool (decide (k = 2))) rfl rfl ?_
  refine wpo_nil ?_
  refine wpf_cond rfl (fun h104 => ?_) (fun h104 => ?_)
  ·
   have h105 := of_decide_eq_true h104
   refine wpf_seq_region ?_
   refine wpo_assign (v := .string ⟨([110, 111, 100, 101] : List UInt8).toArray⟩) rfl rfl ?_
   refine wpo_nil ?_
   refine wpf_ret ?_
   refine blk_r ?_
   refine thn_r ?_
   refine ⟨.string ⟨([110, 111, 100, 101] : List UInt8).toArray⟩, res1 rfl rfl, ?_, hb0⟩
   exact congrArg (fun z : List UInt8 => Value.string ⟨z.toArray⟩) ((by unfold kname; rw [if_neg (of_decide_eq_false h101), if_pos (of_decide_eq_true h104)]))
  ·
   have h106 := of_decide_eq_false h104
   refine wpf_seq_region ?_
   refine wpo_eql (q := decide (k = 3)) rfl rfl rfl rfl ?_
   refine wpo_assign (v := .bool (decide (k = 3))) rfl rfl ?_
   refine wpo_nil ?_
   refine wpf_cond rfl (fun h107 => ?_) (fun h107 => ?_)
   ·
    have h108 := of_decide_eq_true h107
    refine wpf_seq_region ?_
    refine wpo_assign (v := .string ⟨([114, 117, 110] : List UInt8).toArray⟩) rfl rfl ?_
    refine wpo_nil ?_
    refine wpf_ret ?_
    refine blk_r ?_
    refine thn_r ?_
    refine ⟨.string ⟨([114, 117, 110] : List UInt8).toArray⟩, res1 rfl rfl, ?_, hb0⟩
    exact congrArg (fun z : List UInt8 => Value.string ⟨z.toArray⟩) ((by unfold kname; rw [if_neg (of_decide_eq_false h101), if_neg (of_decide_eq_false h104), if_pos (of_decide_eq_true h107)]))
   ·
    have h109 := of_decide_eq_false h107
    refine wpf_seq_region ?_
    refine wpo_eql (q := decide (k = 4)) rfl rfl rfl rfl ?_
    refine wpo_assign (v := .bool (decide (k = 4))) rfl rfl ?_
    refine wpo_nil ?_
    refine wpf_cond rfl (fun h110 => ?_) (fun h110 => ?_)
    ·
     have h111 := of_decide_eq_true h110
     refine wpf_seq_region ?_
     refine wpo_assign (v := .string ⟨([112, 105, 112, 101] : List UInt8).toArray⟩) rfl rfl ?_
     refine wpo_nil ?_
     refine wpf_ret ?_
     refine blk_r ?_
     refine thn_r ?_
     refine ⟨.string ⟨([112, 105, 112, 101] : List UInt8).toArray⟩, res1 rfl rfl, ?_, hb0⟩
     exact congrArg (fun z : List UInt8 => Value.string ⟨z.toArray⟩) ((by unfold kname; rw [if_neg (of_decide_eq_false h101), if_neg (of_decide_eq_false h104), if_neg (of_decide_eq_false h107), if_pos (of_decide_eq_true h110)]))
    ·
     have h112 := of_decide_eq_false h110
     refine wpf_seq_region ?_
     refine wpo_eql (q := decide (k = 5)) rfl rfl rfl rfl ?_
     refine wpo_assign (v := .bool (decide (k = 5))) rfl rfl ?_
     refine wpo_nil ?_
     refine wpf_cond rfl (fun h113 => ?_) (fun h113 => ?_)
     ·
      have h114 := of_decide_eq_true h113
      refine wpf_seq_region ?_
      refine wpo_assign (v := .string ⟨([103, 97, 116, 101] : List UInt8).toArray⟩) rfl rfl ?_
      refine wpo_nil ?_
      refine wpf_ret ?_
      refine blk_r ?_
      refine thn_r ?_
      refine ⟨.string ⟨([103, 97, 116, 101] : List UInt8).toArray⟩, res1 rfl rfl, ?_, hb0⟩
      exact congrArg (fun z : List UInt8 => Value.string ⟨z.toArray⟩) ((by unfold kname; rw [if_neg (of_decide_eq_false h101), if_neg (of_decide_eq_false h104), if_neg (of_decide_eq_false h107), if_neg (of_decide_eq_false h110), if_pos (of_decide_eq_true h113)]))
     ·
      have h115 := of_decide_eq_false h113
      refine wpf_skip ?_
      refine blk_n ?_
      refine thn_n ?_
      refine wpf_seq_region ?_
      refine wpo_assign (v := .string ⟨([] : List UInt8).toArray⟩) rfl rfl ?_
      refine wpo_nil ?_
      refine wpf_ret ?_
      refine ⟨.string ⟨([] : List UInt8).toArray⟩, res1 rfl rfl, ?_, hb0⟩
      exact congrArg (fun z : List UInt8 => Value.string ⟨z.toArray⟩) ((by unfold kname; rw [if_neg (of_decide_eq_false h101), if_neg (of_decide_eq_false h104), if_neg (of_decide_eq_false h107), if_neg (of_decide_eq_false h110), if_neg (of_decide_eq_false h113)]))

theorem ilabtx_c (l : Lab) (w : World) : CallsR Tryd.prog 48 #[.agg #[.int .i64 l.s, .int .i64 l.v]] w (fun v w' => v = .string ⟨(labtx l).toArray⟩ ∧ w.grownBy w' none) := by
 refine calls_of_wpf (n := 14) Tryd.func48 rfl Tryd.ntmps48 rfl ?_
 have hb0 := World.grownBy.refl w none
 refine wpf_seq_region ?_
 refine wpo_box (v := .agg #[.int .i64 l.s, .int .i64 l.v]) (cs := #[.int .i64 l.s, .int .i64 l.v]) rfl rfl rfl ?_
 intro B101 w102 hN103
 have hlB101 := hN_ge hN103 hb0
 have hb104 := low0 hb0 hN103.grw
 refine wpo_assign (v := .string ⟨([] : List UInt8).toArray⟩) rfl rfl ?_
 refine wpo_nil ?_
 refine wpf_seq ?_
 refine wpf_seq_region ?_
 refine wpo_loadn (vs := [.int .i64 l.s, .int .i64 l.v]) rt_27 rfl rfl (hN103.blk.rangeL 0 2 rfl) rfl ?_
 refine wpo_call (vs := [.agg #[.int .i64 l.s, .int .i64 l.v]]) gf_35 (args_cons rfl args_nil) rfl (LabelOk_c l _) ?_
 rintro _ w105 ⟨rfl, hg106⟩
 have hb107 := low0 hb104 hg106
 refine wpo_not (b' := !labelOk l) rfl rfl rfl ?_
 refine wpo_nil ?_
 refine wpf_cond rfl (fun h108 => ?_) (fun h108 => ?_)
 ·
  have h109 := nt_t h108
  refine wpf_seq_region ?_
  refine wpo_assign (v := .string ⟨([] : List UInt8).toArray⟩) rfl rfl ?_
  refine wpo_nil ?_
  refine wpf_ret ?_
  refine thn_r ?_
  refine ⟨.string ⟨([] : List UInt8).toArray⟩, res1 rfl rfl, ?_, hb107⟩
  exact congrArg (fun z : List UInt8 => Value.string ⟨z.toArray⟩) ((if_neg (by rw [h109]; exact Bool.false_ne_true)).symm)
 ·
  have h110 := nt_f h108
  have hlk111 := (labelOk_iff l).1 h110
  refine wpf_skip ?_
  refine thn_n ?_
  refine wpf_seq ?_
  refine wpf_draw (m := 7) (vals := [(6, .pointer (some ⟨B101, 0, none⟩)), (7, .int .i64 l.s), (8, .string ⟨(dec l.s).toArray⟩), (9, .string ⟨((dec l.s) ++ ([47] : List UInt8)).toArray⟩), (10, .pointer (some ⟨B101, 1, none⟩)), (11, .int .i64 l.v), (12, .string ⟨(dec l.v).toArray⟩)]) (fun w' => w105.grownBy w' none) mixed_ (by kernel_rfl) (grown_drew _) ?_ ?_
  ·
   refine yll_cons rfl (fun w144 hi145 => ?_) ?_
   ·
    have hb146 := low0 hb107 hi145
    refine wpo_fieldAddr (o' := 0) fo_27_0 rfl rfl rfl ?_
    exact wpo_nil ⟨rfl, hi145⟩
   refine yll_cons rfl (fun w147 hi148 => ?_) ?_
   ·
    have hb149 := low0 hb107 hi148
    have k150 := ((hN103.blk.grown0 hg106).grown0 hi148)
    refine wpo_load1 (v := .int .i64 l.s) ot_3 rfl (k150.cell rfl) rfl ?_
    exact wpo_nil ⟨rfl, hi148⟩
   refine yll_cons rfl (fun w151 hi152 => ?_) ?_
   ·
    have hb153 := low0 hb107 hi152
    refine wpo_call (vs := [.int .i64 l.s]) gf_46 (args_cons rfl args_nil) rfl (itoas_c l.s (by omega) _) ?_
    rintro _ w154 ⟨rfl, hg155⟩
    have hb156 := low0 hb153 hg155
    exact wpo_nil ⟨rfl, (grown_trans hi152 hg155)⟩
   refine yll_cons rfl (fun w157 hi158 => ?_) ?_
   ·
    have hb159 := low0 hb107 hi158
    refine wpo_cat (a := dec l.s) (b := ([47] : List UInt8)) rfl rfl (Nat.le_trans (dec_len l.s) (by decide)) (Nat.le_trans (Nat.le_refl _) (by decide)) rfl ?_
    exact wpo_nil ⟨rfl, hi158⟩
   refine yll_cons rfl (fun w160 hi161 => ?_) ?_
   ·
    have hb162 := low0 hb107 hi161
    refine wpo_fieldAddr (o' := 1) fo_27_1 rfl rfl rfl ?_
    exact wpo_nil ⟨rfl, hi161⟩
   refine yll_cons rfl (fun w163 hi164 => ?_) ?_
   ·
    have hb165 := low0 hb107 hi164
    have k166 := ((hN103.blk.grown0 hg106).grown0 hi164)
    refine wpo_load1 (v := .int .i64 l.v) ot_3 rfl (k166.cell rfl) rfl ?_
    exact wpo_nil ⟨rfl, hi164⟩
   refine yll_cons rfl (fun w167 hi168 => ?_) ?_
   ·
    have hb169 := low0 hb107 hi168
    refine wpo_call (vs := [.int .i64 l.v]) gf_46 (args_cons rfl args_nil) rfl (itoas_c l.v (by omega) _) ?_
    rintro _ w170 ⟨rfl, hg171⟩
    have hb172 := low0 hb169 hg171
    exact wpo_nil ⟨rfl, (grown_trans hi168 hg171)⟩
   exact yll_nil
  ·
   intro w173 hi174
   have hb175 := low0 hb107 hi174
   refine wpo_cat (a := ((dec l.s) ++ ([47] : List UInt8))) (b := dec l.v) rfl rfl (Nat.le_trans (len_app (dec_len l.s) (Nat.le_refl _)) (by decide)) (Nat.le_trans (dec_len l.v) (by decide)) rfl ?_
   refine wpo_assign (v := .string ⟨(((dec l.s) ++ ([47] : List UInt8)) ++ (dec l.v)).toArray⟩) rfl rfl ?_
   refine wpo_nil ?_
   refine thn_n ?_
   refine wpf_ret ?_
   refine ⟨.string ⟨(((dec l.s) ++ ([47] : List UInt8)) ++ (dec l.v)).toArray⟩, res1 rfl rfl, ?_, hb175⟩
   exact congrArg (fun z : List UInt8 => Value.string ⟨z.toArray⟩) ((if_pos h110).symm)

theorem etx_c (w : World) : CallsR Tryd.prog 93 #[.agg #[]] w (fun v w' => v = .string ⟨([45]).toArray⟩ ∧ w.grownBy w' none) := by
 refine calls_of_wpf (n := 3) Tryd.func93 rfl Tryd.ntmps93 rfl ?_
 have hb0 := World.grownBy.refl w none
 refine wpf_seq_region ?_
 refine wpo_box (v := .agg #[]) (cs := #[]) rfl rfl rfl ?_
 intro B101 w102 hN103
 have hlB101 := hN_ge hN103 hb0
 have hb104 := low0 hb0 hN103.grw
 refine wpo_assign (v := .string ⟨([] : List UInt8).toArray⟩) rfl rfl ?_
 refine wpo_nil ?_
 refine wpf_seq_region ?_
 refine wpo_assign (v := .string ⟨([45] : List UInt8).toArray⟩) rfl rfl ?_
 refine wpo_nil ?_
 refine wpf_ret ?_
 refine ⟨.string ⟨([45] : List UInt8).toArray⟩, res1 rfl rfl, ?_, hb104⟩
 exact congrArg (fun z : List UInt8 => Value.string ⟨z.toArray⟩) (rfl)

theorem otx_c (r : Rt) (hr : (0 ≤ r.th ∧ r.th ≤ 8) ∧ 0 ≤ r.ve ∧ r.ve ≤ 5) (w : World) : CallsR Tryd.prog 95 #[.agg #[.int .i64 r.th, .int .i64 r.ve, .bool r.rd, .bool r.wr, .bool r.wk]] w (fun v w' => v = .string ⟨(otx r).toArray⟩ ∧ w.grownBy w' none) := by
 refine calls_of_wpf (n := 34) Tryd.func95 rfl Tryd.ntmps95 rfl ?_
 have hb0 := World.grownBy.refl w none
 rcases bcases (r.rd) with h101 | h101
 ·
  rcases bcases (r.wr) with h102 | h102
  ·
   rcases bcases (r.wk) with h103 | h103
   ·
    refine wpf_seq_region ?_
    refine wpo_box (v := .agg #[.int .i64 r.th, .int .i64 r.ve, .bool r.rd, .bool r.wr, .bool r.wk]) (cs := #[.int .i64 r.th, .int .i64 r.ve, .bool r.rd, .bool r.wr, .bool r.wk]) rfl rfl rfl ?_
    intro B104 w105 hN106
    have hlB104 := hN_ge hN106 hb0
    have hb107 := low0 hb0 hN106.grw
    refine wpo_assign (v := .string ⟨([] : List UInt8).toArray⟩) rfl rfl ?_
    refine wpo_nil ?_
    refine wpf_seq_region ?_
    refine wpo_buildSlice (ps := [(0, .int .u8 45), (1, .int .u8 45), (2, .int .u8 45)]) (e := 5) (cs := #[.int .u8 45, .int .u8 45, .int .u8 45]) (parts_cons rfl (parts_cons rfl (parts_cons rfl parts_nil))) (fun _ => by kernel_rfl) rfl ?_
    intro B108 w109 hN110
    have hlB108 := hN_ge hN110 hb107
    have lt_B104_B108 := hN_gtl hN110 (hN106.blk).lt
    have hb111 := low0 hb107 hN110.grw
    refine wpo_convs (e := 5) rfl (by kernel_rfl) (by kernel_rfl) hN110.blk rfl ?_
    intro w112 hS113
    have hb114 := low1 hb111 hS113.grw (by omega)
    refine wpo_assign (v := .slice (some ⟨B108, 0, none⟩) 3 3) rfl rfl ?_
    refine wpo_nil ?_
    refine wpf_seq ?_
    refine wpf_seq_region ?_
    refine wpo_fieldAddr (o' := 0) fo_90_0 rfl rfl rfl ?_
    refine wpo_fieldAddr (o' := 2) fo_39_2 rfl rfl rfl ?_
    have k115 := ((hN106.blk.grown0 hN110.grw).gn hS113.grw)
    refine wpo_load1 (v := .bool r.rd) ot_4 rfl (k115.cell rfl) rfl ?_
    refine wpo_nil ?_
    refine wpf_condt rfl h101 ?_
    refine wpf_region ?_
    refine wpo_move (v := .slice (some ⟨B108, 0, none⟩) 3 3) rfl rfl ?_
    refine wpo_indexAddr (o' := 0) es_22 rfl rfl (by omega) (by omega) rfl rfl ?_
    refine wpo_store1M (v := .int .u8 114) (cs' := #[.int .u8 114, .int .u8 45, .int .u8 45]) ot_5 rfl rfl rfl hS113.blk (Nat.le_of_ble_eq_true rfl) rfl ?_
    intro w116 hS117
    have hb118 := low1 hb114 hS117.grw (by omega)
    refine wpo_nil ?_
    refine thn_n ?_
    refine wpf_seq ?_
    refine wpf_seq_region ?_
    refine wpo_fieldAddr (o' := 0) fo_90_0 rfl rfl rfl ?_
    refine wpo_fieldAddr (o' := 3) fo_39_3 rfl rfl rfl ?_
    have k119 := (k115.gn hS117.grw)
    refine wpo_load1 (v := .bool r.wr) ot_4 rfl (k119.cell rfl) rfl ?_
    refine wpo_nil ?_
    refine wpf_condt rfl h102 ?_
    refine wpf_region ?_
    refine wpo_move (v := .slice (some ⟨B108, 0, none⟩) 3 3) rfl rfl ?_
    refine wpo_indexAddr (o' := 1) es_22 rfl rfl (by omega) (by omega) rfl rfl ?_
    refine wpo_store1M (v := .int .u8 119) (cs' := #[.int .u8 114, .int .u8 119, .int .u8 45]) ot_5 rfl rfl rfl hS117.blk (Nat.le_of_ble_eq_true rfl) rfl ?_
    intro w120 hS121
    have hb122 := low1 hb118 hS121.grw (by omega)
    refine wpo_nil ?_
    refine thn_n ?_
    refine wpf_seq ?_
    refine wpf_seq_region ?_
    refine wpo_fieldAddr (o' := 0) fo_90_0 rfl rfl rfl ?_
    refine wpo_fieldAddr (o' := 4) fo_39_4 rfl rfl rfl ?_
    have k123 := (k119.gn hS121.grw)
    refine wpo_load1 (v := .bool r.wk) ot_4 rfl (k123.cell rfl) rfl ?_
    refine wpo_nil ?_
    refine wpf_condt rfl h103 ?_
    refine wpf_region ?_
    refine wpo_move (v := .slice (some ⟨B108, 0, none⟩) 3 3) rfl rfl ?_
    refine wpo_indexAddr (o' := 2) es_22 rfl rfl (by omega) (by omega) rfl rfl ?_
    refine wpo_store1M (v := .int .u8 107) (cs' := #[.int .u8 114, .int .u8 119, .int .u8 107]) ot_5 rfl rfl rfl hS121.blk (Nat.le_of_ble_eq_true rfl) rfl ?_
    intro w124 hS125
    have hb126 := low1 hb122 hS125.grw (by omega)
    refine wpo_nil ?_
    refine thn_n ?_
    refine wpf_seq ?_
    refine wpf_draw (m := 12) (vals := [(21, .pointer (some ⟨B104, 0, none⟩)), (22, .pointer (some ⟨B104, 0, none⟩)), (23, .int .i64 r.th), (24, .string ⟨(dec r.th).toArray⟩), (25, .string ⟨((dec r.th) ++ ([46] : List UInt8)).toArray⟩), (26, .pointer (some ⟨B104, 0, none⟩)), (27, .pointer (some ⟨B104, 1, none⟩)), (28, .int .i64 r.ve), (29, .string ⟨(dec r.ve).toArray⟩), (30, .string ⟨(((dec r.th) ++ ([46] : List UInt8)) ++ (dec r.ve)).toArray⟩), (31, .slice (some ⟨B108, 0, none⟩) 3 3), (32, .string ⟨(ub [114, 119, 107]).toArray⟩)]) (fun w' => w124.grownBy w' none) mixed_ (by kernel_rfl) (grown_drew _) ?_ ?_
    ·
     refine yll_cons rfl (fun w163 hi164 => ?_) ?_
     ·
      have hb165 := low0 hb126 hi164
      refine wpo_fieldAddr (o' := 0) fo_90_0 rfl rfl rfl ?_
      exact wpo_nil ⟨rfl, hi164⟩
     refine yll_cons rfl (fun w166 hi167 => ?_) ?_
     ·
      have hb168 := low0 hb126 hi167
      refine wpo_fieldAddr (o' := 0) fo_39_0 rfl rfl rfl ?_
      exact wpo_nil ⟨rfl, hi167⟩
     refine yll_cons rfl (fun w169 hi170 => ?_) ?_
     ·
      have hb171 := low0 hb126 hi170
      have k172 := ((k123.gn hS125.grw).grown0 hi170)
      refine wpo_load1 (v := .int .i64 r.th) ot_3 rfl (k172.cell rfl) rfl ?_
      exact wpo_nil ⟨rfl, hi170⟩
     refine yll_cons rfl (fun w173 hi174 => ?_) ?_
     ·
      have hb175 := low0 hb126 hi174
      refine wpo_call (vs := [.int .i64 r.th]) gf_46 (args_cons rfl args_nil) rfl (itoas_c r.th (by omega) _) ?_
      rintro _ w176 ⟨rfl, hg177⟩
      have hb178 := low0 hb175 hg177
      exact wpo_nil ⟨rfl, (grown_trans hi174 hg177)⟩
     refine yll_cons rfl (fun w179 hi180 => ?_) ?_
     ·
      have hb181 := low0 hb126 hi180
      refine wpo_cat (a := dec r.th) (b := ([46] : List UInt8)) rfl rfl (Nat.le_trans (dec_len r.th) (by decide)) (Nat.le_trans (Nat.le_refl _) (by decide)) rfl ?_
      exact wpo_nil ⟨rfl, hi180⟩
     refine yll_cons rfl (fun w182 hi183 => ?_) ?_
     ·
      have hb184 := low0 hb126 hi183
      refine wpo_fieldAddr (o' := 0) fo_90_0 rfl rfl rfl ?_
      exact wpo_nil ⟨rfl, hi183⟩
     refine yll_cons rfl (fun w185 hi186 => ?_) ?_
     ·
      have hb187 := low0 hb126 hi186
      refine wpo_fieldAddr (o' := 1) fo_39_1 rfl rfl rfl ?_
      exact wpo_nil ⟨rfl, hi186⟩
     refine yll_cons rfl (fun w188 hi189 => ?_) ?_
     ·
      have hb190 := low0 hb126 hi189
      have k191 := ((k123.gn hS125.grw).grown0 hi189)
      refine wpo_load1 (v := .int .i64 r.ve) ot_3 rfl (k191.cell rfl) rfl ?_
      exact wpo_nil ⟨rfl, hi189⟩
     refine yll_cons rfl (fun w192 hi193 => ?_) ?_
     ·
      have hb194 := low0 hb126 hi193
      refine wpo_call (vs := [.int .i64 r.ve]) gf_46 (args_cons rfl args_nil) rfl (itoas_c r.ve (by omega) _) ?_
      rintro _ w195 ⟨rfl, hg196⟩
      have hb197 := low0 hb194 hg196
      exact wpo_nil ⟨rfl, (grown_trans hi193 hg196)⟩
     refine yll_cons rfl (fun w198 hi199 => ?_) ?_
     ·
      have hb200 := low0 hb126 hi199
      refine wpo_cat (a := ((dec r.th) ++ ([46] : List UInt8))) (b := dec r.ve) rfl rfl (Nat.le_trans (len_app (dec_len r.th) (Nat.le_refl _)) (by decide)) (Nat.le_trans (dec_len r.ve) (by decide)) rfl ?_
      exact wpo_nil ⟨rfl, hi199⟩
     refine yll_cons rfl (fun w201 hi202 => ?_) ?_
     ·
      have hb203 := low0 hb126 hi202
      refine wpo_move (v := .slice (some ⟨B108, 0, none⟩) 3 3) rfl rfl ?_
      exact wpo_nil ⟨rfl, hi202⟩
     refine yll_cons rfl (fun w204 hi205 => ?_) ?_
     ·
      have hb206 := low0 hb126 hi205
      have k207 := (hS125.blk.grown0 hi205)
      refine wpo_bstr (ns := [114, 119, 107]) (e := 5) rfl (by kernel_rfl) (by kernel_rfl) (by kernel_rfl) (load_blkM k207 rfl rfl) rfl ?_
      exact wpo_nil ⟨rfl, hi205⟩
     exact yll_nil
    ·
     intro w208 hi209
     have hb210 := low0 hb126 hi209
     refine wpo_cat (a := (((dec r.th) ++ ([46] : List UInt8)) ++ (dec r.ve))) (b := ub [114, 119, 107]) rfl rfl (Nat.le_trans (len_app (len_app (dec_len r.th) (Nat.le_refl _)) (dec_len r.ve)) (by decide)) (Nat.le_trans (show (ub [114, 119, 107]).length ≤ 3 from Nat.le_refl _) (by decide)) rfl ?_
     refine wpo_assign (v := .string ⟨((((dec r.th) ++ ([46] : List UInt8)) ++ (dec r.ve)) ++ (ub [114, 119, 107])).toArray⟩) rfl rfl ?_
     refine wpo_nil ?_
     refine thn_n ?_
     refine wpf_ret ?_
     refine ⟨.string ⟨((((dec r.th) ++ ([46] : List UInt8)) ++ (dec r.ve)) ++ (ub [114, 119, 107])).toArray⟩, res1 rfl rfl, ?_, hb210⟩
     exact congrArg (fun z : List UInt8 => Value.string ⟨z.toArray⟩) ((by rw [otx_eq, h101, h102, h103]; rfl))
   ·
    refine wpf_seq_region ?_
    refine wpo_box (v := .agg #[.int .i64 r.th, .int .i64 r.ve, .bool r.rd, .bool r.wr, .bool r.wk]) (cs := #[.int .i64 r.th, .int .i64 r.ve, .bool r.rd, .bool r.wr, .bool r.wk]) rfl rfl rfl ?_
    intro B211 w212 hN213
    have hlB211 := hN_ge hN213 hb0
    have hb214 := low0 hb0 hN213.grw
    refine wpo_assign (v := .string ⟨([] : List UInt8).toArray⟩) rfl rfl ?_
    refine wpo_nil ?_
    refine wpf_seq_region ?_
    refine wpo_buildSlice (ps := [(0, .int .u8 45), (1, .int .u8 45), (2, .int .u8 45)]) (e := 5) (cs := #[.int .u8 45, .int .u8 45, .int .u8 45]) (parts_cons rfl (parts_cons rfl (parts_cons rfl parts_nil))) (fun _ => by kernel_rfl) rfl ?_
    intro B215 w216 hN217
    have hlB215 := hN_ge hN217 hb214
    have lt_B211_B215 := hN_gtl hN217 (hN213.blk).lt
    have hb218 := low0 hb214 hN217.grw
    refine wpo_convs (e := 5) rfl (by kernel_rfl) (by kernel_rfl) hN217.blk rfl ?_
    intro w219 hS220
    have hb221 := low1 hb218 hS220.grw (by omega)
    refine wpo_assign (v := .slice (some ⟨B215, 0, none⟩) 3 3) rfl rfl ?_
    refine wpo_nil ?_
    refine wpf_seq ?_
    refine wpf_seq_region ?_
    refine wpo_fieldAddr (o' := 0) fo_90_0 rfl rfl rfl ?_
    refine wpo_fieldAddr (o' := 2) fo_39_2 rfl rfl rfl ?_
    have k222 := ((hN213.blk.grown0 hN217.grw).gn hS220.grw)
    refine wpo_load1 (v := .bool r.rd) ot_4 rfl (k222.cell rfl) rfl ?_
    refine wpo_nil ?_
    refine wpf_condt rfl h101 ?_
    refine wpf_region ?_
    refine wpo_move (v := .slice (some ⟨B215, 0, none⟩) 3 3) rfl rfl ?_
    refine wpo_indexAddr (o' := 0) es_22 rfl rfl (by omega) (by omega) rfl rfl ?_
    refine wpo_store1M (v := .int .u8 114) (cs' := #[.int .u8 114, .int .u8 45, .int .u8 45]) ot_5 rfl rfl rfl hS220.blk (Nat.le_of_ble_eq_true rfl) rfl ?_
    intro w223 hS224
    have hb225 := low1 hb221 hS224.grw (by omega)
    refine wpo_nil ?_
    refine thn_n ?_
    refine wpf_seq ?_
    refine wpf_seq_region ?_
    refine wpo_fieldAddr (o' := 0) fo_90_0 rfl rfl rfl ?_
    refine wpo_fieldAddr (o' := 3) fo_39_3 rfl rfl rfl ?_
    have k226 := (k222.gn hS224.grw)
    refine wpo_load1 (v := .bool r.wr) ot_4 rfl (k226.cell rfl) rfl ?_
    refine wpo_nil ?_
    refine wpf_condt rfl h102 ?_
    refine wpf_region ?_
    refine wpo_move (v := .slice (some ⟨B215, 0, none⟩) 3 3) rfl rfl ?_
    refine wpo_indexAddr (o' := 1) es_22 rfl rfl (by omega) (by omega) rfl rfl ?_
    refine wpo_store1M (v := .int .u8 119) (cs' := #[.int .u8 114, .int .u8 119, .int .u8 45]) ot_5 rfl rfl rfl hS224.blk (Nat.le_of_ble_eq_true rfl) rfl ?_
    intro w227 hS228
    have hb229 := low1 hb225 hS228.grw (by omega)
    refine wpo_nil ?_
    refine thn_n ?_
    refine wpf_seq ?_
    refine wpf_seq_region ?_
    refine wpo_fieldAddr (o' := 0) fo_90_0 rfl rfl rfl ?_
    refine wpo_fieldAddr (o' := 4) fo_39_4 rfl rfl rfl ?_
    have k230 := (k226.gn hS228.grw)
    refine wpo_load1 (v := .bool r.wk) ot_4 rfl (k230.cell rfl) rfl ?_
    refine wpo_nil ?_
    refine wpf_condf rfl h103 ?_
    refine wpf_skip ?_
    refine thn_n ?_
    refine wpf_seq ?_
    refine wpf_draw (m := 12) (vals := [(21, .pointer (some ⟨B211, 0, none⟩)), (22, .pointer (some ⟨B211, 0, none⟩)), (23, .int .i64 r.th), (24, .string ⟨(dec r.th).toArray⟩), (25, .string ⟨((dec r.th) ++ ([46] : List UInt8)).toArray⟩), (26, .pointer (some ⟨B211, 0, none⟩)), (27, .pointer (some ⟨B211, 1, none⟩)), (28, .int .i64 r.ve), (29, .string ⟨(dec r.ve).toArray⟩), (30, .string ⟨(((dec r.th) ++ ([46] : List UInt8)) ++ (dec r.ve)).toArray⟩), (31, .slice (some ⟨B215, 0, none⟩) 3 3), (32, .string ⟨(ub [114, 119, 45]).toArray⟩)]) (fun w' => w227.grownBy w' none) mixed_ (by kernel_rfl) (grown_drew _) ?_ ?_
    ·
     refine yll_cons rfl (fun w263 hi264 => ?_) ?_
     ·
      have hb265 := low0 hb229 hi264
      refine wpo_fieldAddr (o' := 0) fo_90_0 rfl rfl rfl ?_
      exact wpo_nil ⟨rfl, hi264⟩
     refine yll_cons rfl (fun w266 hi267 => ?_) ?_
     ·
      have hb268 := low0 hb229 hi267
      refine wpo_fieldAddr (o' := 0) fo_39_0 rfl rfl rfl ?_
      exact wpo_nil ⟨rfl, hi267⟩
     refine yll_cons rfl (fun w269 hi270 => ?_) ?_
     ·
      have hb271 := low0 hb229 hi270
      have k272 := (k230.grown0 hi270)
      refine wpo_load1 (v := .int .i64 r.th) ot_3 rfl (k272.cell rfl) rfl ?_
      exact wpo_nil ⟨rfl, hi270⟩
     refine yll_cons rfl (fun w273 hi274 => ?_) ?_
     ·
      have hb275 := low0 hb229 hi274
      refine wpo_call (vs := [.int .i64 r.th]) gf_46 (args_cons rfl args_nil) rfl (itoas_c r.th (by omega) _) ?_
      rintro _ w276 ⟨rfl, hg277⟩
      have hb278 := low0 hb275 hg277
      exact wpo_nil ⟨rfl, (grown_trans hi274 hg277)⟩
     refine yll_cons rfl (fun w279 hi280 => ?_) ?_
     ·
      have hb281 := low0 hb229 hi280
      refine wpo_cat (a := dec r.th) (b := ([46] : List UInt8)) rfl rfl (Nat.le_trans (dec_len r.th) (by decide)) (Nat.le_trans (Nat.le_refl _) (by decide)) rfl ?_
      exact wpo_nil ⟨rfl, hi280⟩
     refine yll_cons rfl (fun w282 hi283 => ?_) ?_
     ·
      have hb284 := low0 hb229 hi283
      refine wpo_fieldAddr (o' := 0) fo_90_0 rfl rfl rfl ?_
      exact wpo_nil ⟨rfl, hi283⟩
     refine yll_cons rfl (fun w285 hi286 => ?_) ?_
     ·
      have hb287 := low0 hb229 hi286
      refine wpo_fieldAddr (o' := 1) fo_39_1 rfl rfl rfl ?_
      exact wpo_nil ⟨rfl, hi286⟩
     refine yll_cons rfl (fun w288 hi289 => ?_) ?_
     ·
      have hb290 := low0 hb229 hi289
      have k291 := (k230.grown0 hi289)
      refine wpo_load1 (v := .int .i64 r.ve) ot_3 rfl (k291.cell rfl) rfl ?_
      exact wpo_nil ⟨rfl, hi289⟩
     refine yll_cons rfl (fun w292 hi293 => ?_) ?_
     ·
      have hb294 := low0 hb229 hi293
      refine wpo_call (vs := [.int .i64 r.ve]) gf_46 (args_cons rfl args_nil) rfl (itoas_c r.ve (by omega) _) ?_
      rintro _ w295 ⟨rfl, hg296⟩
      have hb297 := low0 hb294 hg296
      exact wpo_nil ⟨rfl, (grown_trans hi293 hg296)⟩
     refine yll_cons rfl (fun w298 hi299 => ?_) ?_
     ·
      have hb300 := low0 hb229 hi299
      refine wpo_cat (a := ((dec r.th) ++ ([46] : List UInt8))) (b := dec r.ve) rfl rfl (Nat.le_trans (len_app (dec_len r.th) (Nat.le_refl _)) (by decide)) (Nat.le_trans (dec_len r.ve) (by decide)) rfl ?_
      exact wpo_nil ⟨rfl, hi299⟩
     refine yll_cons rfl (fun w301 hi302 => ?_) ?_
     ·
      have hb303 := low0 hb229 hi302
      refine wpo_move (v := .slice (some ⟨B215, 0, none⟩) 3 3) rfl rfl ?_
      exact wpo_nil ⟨rfl, hi302⟩
     refine yll_cons rfl (fun w304 hi305 => ?_) ?_
     ·
      have hb306 := low0 hb229 hi305
      have k307 := (hS228.blk.grown0 hi305)
      refine wpo_bstr (ns := [114, 119, 45]) (e := 5) rfl (by kernel_rfl) (by kernel_rfl) (by kernel_rfl) (load_blkM k307 rfl rfl) rfl ?_
      exact wpo_nil ⟨rfl, hi305⟩
     exact yll_nil
    ·
     intro w308 hi309
     have hb310 := low0 hb229 hi309
     refine wpo_cat (a := (((dec r.th) ++ ([46] : List UInt8)) ++ (dec r.ve))) (b := ub [114, 119, 45]) rfl rfl (Nat.le_trans (len_app (len_app (dec_len r.th) (Nat.le_refl _)) (dec_len r.ve)) (by decide)) (Nat.le_trans (show (ub [114, 119, 45]).length ≤ 3 from Nat.le_refl _) (by decide)) rfl ?_
     refine wpo_assign (v := .string ⟨((((dec r.th) ++ ([46] : List UInt8)) ++ (dec r.ve)) ++ (ub [114, 119, 45])).toArray⟩) rfl rfl ?_
     refine wpo_nil ?_
     refine thn_n ?_
     refine wpf_ret ?_
     refine ⟨.string ⟨((((dec r.th) ++ ([46] : List UInt8)) ++ (dec r.ve)) ++ (ub [114, 119, 45])).toArray⟩, res1 rfl rfl, ?_, hb310⟩
     exact congrArg (fun z : List UInt8 => Value.string ⟨z.toArray⟩) ((by rw [otx_eq, h101, h102, h103]; rfl))
  ·
   rcases bcases (r.wk) with h311 | h311
   ·
    refine wpf_seq_region ?_
    refine wpo_box (v := .agg #[.int .i64 r.th, .int .i64 r.ve, .bool r.rd, .bool r.wr, .bool r.wk]) (cs := #[.int .i64 r.th, .int .i64 r.ve, .bool r.rd, .bool r.wr, .bool r.wk]) rfl rfl rfl ?_
    intro B312 w313 hN314
    have hlB312 := hN_ge hN314 hb0
    have hb315 := low0 hb0 hN314.grw
    refine wpo_assign (v := .string ⟨([] : List UInt8).toArray⟩) rfl rfl ?_
    refine wpo_nil ?_
    refine wpf_seq_region ?_
    refine wpo_buildSlice (ps := [(0, .int .u8 45), (1, .int .u8 45), (2, .int .u8 45)]) (e := 5) (cs := #[.int .u8 45, .int .u8 45, .int .u8 45]) (parts_cons rfl (parts_cons rfl (parts_cons rfl parts_nil))) (fun _ => by kernel_rfl) rfl ?_
    intro B316 w317 hN318
    have hlB316 := hN_ge hN318 hb315
    have lt_B312_B316 := hN_gtl hN318 (hN314.blk).lt
    have hb319 := low0 hb315 hN318.grw
    refine wpo_convs (e := 5) rfl (by kernel_rfl) (by kernel_rfl) hN318.blk rfl ?_
    intro w320 hS321
    have hb322 := low1 hb319 hS321.grw (by omega)
    refine wpo_assign (v := .slice (some ⟨B316, 0, none⟩) 3 3) rfl rfl ?_
    refine wpo_nil ?_
    refine wpf_seq ?_
    refine wpf_seq_region ?_
    refine wpo_fieldAddr (o' := 0) fo_90_0 rfl rfl rfl ?_
    refine wpo_fieldAddr (o' := 2) fo_39_2 rfl rfl rfl ?_
    have k323 := ((hN314.blk.grown0 hN318.grw).gn hS321.grw)
    refine wpo_load1 (v := .bool r.rd) ot_4 rfl (k323.cell rfl) rfl ?_
    refine wpo_nil ?_
    refine wpf_condt rfl h101 ?_
    refine wpf_region ?_
    refine wpo_move (v := .slice (some ⟨B316, 0, none⟩) 3 3) rfl rfl ?_
    refine wpo_indexAddr (o' := 0) es_22 rfl rfl (by omega) (by omega) rfl rfl ?_
    refine wpo_store1M (v := .int .u8 114) (cs' := #[.int .u8 114, .int .u8 45, .int .u8 45]) ot_5 rfl rfl rfl hS321.blk (Nat.le_of_ble_eq_true rfl) rfl ?_
    intro w324 hS325
    have hb326 := low1 hb322 hS325.grw (by omega)
    refine wpo_nil ?_
    refine thn_n ?_
    refine wpf_seq ?_
    refine wpf_seq_region ?_
    refine wpo_fieldAddr (o' := 0) fo_90_0 rfl rfl rfl ?_
    refine wpo_fieldAddr (o' := 3) fo_39_3 rfl rfl rfl ?_
    have k327 := (k323.gn hS325.grw)
    refine wpo_load1 (v := .bool r.wr) ot_4 rfl (k327.cell rfl) rfl ?_
    refine wpo_nil ?_
    refine wpf_condf rfl h102 ?_
    refine wpf_skip ?_
    refine thn_n ?_
    refine wpf_seq ?_
    refine wpf_seq_region ?_
    refine wpo_fieldAddr (o' := 0) fo_90_0 rfl rfl rfl ?_
    refine wpo_fieldAddr (o' := 4) fo_39_4 rfl rfl rfl ?_
    refine wpo_load1 (v := .bool r.wk) ot_4 rfl (k327.cell rfl) rfl ?_
    refine wpo_nil ?_
    refine wpf_condt rfl h311 ?_
    refine wpf_region ?_
    refine wpo_move (v := .slice (some ⟨B316, 0, none⟩) 3 3) rfl rfl ?_
    refine wpo_indexAddr (o' := 2) es_22 rfl rfl (by omega) (by omega) rfl rfl ?_
    refine wpo_store1M (v := .int .u8 107) (cs' := #[.int .u8 114, .int .u8 45, .int .u8 107]) ot_5 rfl rfl rfl hS325.blk (Nat.le_of_ble_eq_true rfl) rfl ?_
    intro w328 hS329
    have hb330 := low1 hb326 hS329.grw (by omega)
    refine wpo_nil ?_
    refine thn_n ?_
    refine wpf_seq ?_
    refine wpf_draw (m := 12) (vals := [(21, .pointer (some ⟨B312, 0, none⟩)), (22, .pointer (some ⟨B312, 0, none⟩)), (23, .int .i64 r.th), (24, .string ⟨(dec r.th).toArray⟩), (25, .string ⟨((dec r.th) ++ ([46] : List UInt8)).toArray⟩), (26, .pointer (some ⟨B312, 0, none⟩)), (27, .pointer (some ⟨B312, 1, none⟩)), (28, .int .i64 r.ve), (29, .string ⟨(dec r.ve).toArray⟩), (30, .string ⟨(((dec r.th) ++ ([46] : List UInt8)) ++ (dec r.ve)).toArray⟩), (31, .slice (some ⟨B316, 0, none⟩) 3 3), (32, .string ⟨(ub [114, 45, 107]).toArray⟩)]) (fun w' => w328.grownBy w' none) mixed_ (by kernel_rfl) (grown_drew _) ?_ ?_
    ·
     refine yll_cons rfl (fun w367 hi368 => ?_) ?_
     ·
      have hb369 := low0 hb330 hi368
      refine wpo_fieldAddr (o' := 0) fo_90_0 rfl rfl rfl ?_
      exact wpo_nil ⟨rfl, hi368⟩
     refine yll_cons rfl (fun w370 hi371 => ?_) ?_
     ·
      have hb372 := low0 hb330 hi371
      refine wpo_fieldAddr (o' := 0) fo_39_0 rfl rfl rfl ?_
      exact wpo_nil ⟨rfl, hi371⟩
     refine yll_cons rfl (fun w373 hi374 => ?_) ?_
     ·
      have hb375 := low0 hb330 hi374
      have k376 := ((k327.gn hS329.grw).grown0 hi374)
      refine wpo_load1 (v := .int .i64 r.th) ot_3 rfl (k376.cell rfl) rfl ?_
      exact wpo_nil ⟨rfl, hi374⟩
     refine yll_cons rfl (fun w377 hi378 => ?_) ?_
     ·
      have hb379 := low0 hb330 hi378
      refine wpo_call (vs := [.int .i64 r.th]) gf_46 (args_cons rfl args_nil) rfl (itoas_c r.th (by omega) _) ?_
      rintro _ w380 ⟨rfl, hg381⟩
      have hb382 := low0 hb379 hg381
      exact wpo_nil ⟨rfl, (grown_trans hi378 hg381)⟩
     refine yll_cons rfl (fun w383 hi384 => ?_) ?_
     ·
      have hb385 := low0 hb330 hi384
      refine wpo_cat (a := dec r.th) (b := ([46] : List UInt8)) rfl rfl (Nat.le_trans (dec_len r.th) (by decide)) (Nat.le_trans (Nat.le_refl _) (by decide)) rfl ?_
      exact wpo_nil ⟨rfl, hi384⟩
     refine yll_cons rfl (fun w386 hi387 => ?_) ?_
     ·
      have hb388 := low0 hb330 hi387
      refine wpo_fieldAddr (o' := 0) fo_90_0 rfl rfl rfl ?_
      exact wpo_nil ⟨rfl, hi387⟩
     refine yll_cons rfl (fun w389 hi390 => ?_) ?_
     ·
      have hb391 := low0 hb330 hi390
      refine wpo_fieldAddr (o' := 1) fo_39_1 rfl rfl rfl ?_
      exact wpo_nil ⟨rfl, hi390⟩
     refine yll_cons rfl (fun w392 hi393 => ?_) ?_
     ·
      have hb394 := low0 hb330 hi393
      have k395 := ((k327.gn hS329.grw).grown0 hi393)
      refine wpo_load1 (v := .int .i64 r.ve) ot_3 rfl (k395.cell rfl) rfl ?_
      exact wpo_nil ⟨rfl, hi393⟩
     refine yll_cons rfl (fun w396 hi397 => ?_) ?_
     ·
      have hb398 := low0 hb330 hi397
      refine wpo_call (vs := [.int .i64 r.ve]) gf_46 (args_cons rfl args_nil) rfl (itoas_c r.ve (by omega) _) ?_
      rintro _ w399 ⟨rfl, hg400⟩
      have hb401 := low0 hb398 hg400
      exact wpo_nil ⟨rfl, (grown_trans hi397 hg400)⟩
     refine yll_cons rfl (fun w402 hi403 => ?_) ?_
     ·
      have hb404 := low0 hb330 hi403
      refine wpo_cat (a := ((dec r.th) ++ ([46] : List UInt8))) (b := dec r.ve) rfl rfl (Nat.le_trans (len_app (dec_len r.th) (Nat.le_refl _)) (by decide)) (Nat.le_trans (dec_len r.ve) (by decide)) rfl ?_
      exact wpo_nil ⟨rfl, hi403⟩
     refine yll_cons rfl (fun w405 hi406 => ?_) ?_
     ·
      have hb407 := low0 hb330 hi406
      refine wpo_move (v := .slice (some ⟨B316, 0, none⟩) 3 3) rfl rfl ?_
      exact wpo_nil ⟨rfl, hi406⟩
     refine yll_cons rfl (fun w408 hi409 => ?_) ?_
     ·
      have hb410 := low0 hb330 hi409
      have k411 := (hS329.blk.grown0 hi409)
      refine wpo_bstr (ns := [114, 45, 107]) (e := 5) rfl (by kernel_rfl) (by kernel_rfl) (by kernel_rfl) (load_blkM k411 rfl rfl) rfl ?_
      exact wpo_nil ⟨rfl, hi409⟩
     exact yll_nil
    ·
     intro w412 hi413
     have hb414 := low0 hb330 hi413
     refine wpo_cat (a := (((dec r.th) ++ ([46] : List UInt8)) ++ (dec r.ve))) (b := ub [114, 45, 107]) rfl rfl (Nat.le_trans (len_app (len_app (dec_len r.th) (Nat.le_refl _)) (dec_len r.ve)) (by decide)) (Nat.le_trans (show (ub [114, 45, 107]).length ≤ 3 from Nat.le_refl _) (by decide)) rfl ?_
     refine wpo_assign (v := .string ⟨((((dec r.th) ++ ([46] : List UInt8)) ++ (dec r.ve)) ++ (ub [114, 45, 107])).toArray⟩) rfl rfl ?_
     refine wpo_nil ?_
     refine thn_n ?_
     refine wpf_ret ?_
     refine ⟨.string ⟨((((dec r.th) ++ ([46] : List UInt8)) ++ (dec r.ve)) ++ (ub [114, 45, 107])).toArray⟩, res1 rfl rfl, ?_, hb414⟩
     exact congrArg (fun z : List UInt8 => Value.string ⟨z.toArray⟩) ((by rw [otx_eq, h101, h102, h311]; rfl))
   ·
    refine wpf_seq_region ?_
    refine wpo_box (v := .agg #[.int .i64 r.th, .int .i64 r.ve, .bool r.rd, .bool r.wr, .bool r.wk]) (cs := #[.int .i64 r.th, .int .i64 r.ve, .bool r.rd, .bool r.wr, .bool r.wk]) rfl rfl rfl ?_
    intro B415 w416 hN417
    have hlB415 := hN_ge hN417 hb0
    have hb418 := low0 hb0 hN417.grw
    refine wpo_assign (v := .string ⟨([] : List UInt8).toArray⟩) rfl rfl ?_
    refine wpo_nil ?_
    refine wpf_seq_region ?_
    refine wpo_buildSlice (ps := [(0, .int .u8 45), (1, .int .u8 45), (2, .int .u8 45)]) (e := 5) (cs := #[.int .u8 45, .int .u8 45, .int .u8 45]) (parts_cons rfl (parts_cons rfl (parts_cons rfl parts_nil))) (fun _ => by kernel_rfl) rfl ?_
    intro B419 w420 hN421
    have hlB419 := hN_ge hN421 hb418
    have lt_B415_B419 := hN_gtl hN421 (hN417.blk).lt
    have hb422 := low0 hb418 hN421.grw
    refine wpo_convs (e := 5) rfl (by kernel_rfl) (by kernel_rfl) hN421.blk rfl ?_
    intro w423 hS424
    have hb425 := low1 hb422 hS424.grw (by omega)
    refine wpo_assign (v := .slice (some ⟨B419, 0, none⟩) 3 3) rfl rfl ?_
    refine wpo_nil ?_
    refine wpf_seq ?_
    refine wpf_seq_region ?_
    refine wpo_fieldAddr (o' := 0) fo_90_0 rfl rfl rfl ?_
    refine wpo_fieldAddr (o' := 2) fo_39_2 rfl rfl rfl ?_
    have k426 := ((hN417.blk.grown0 hN421.grw).gn hS424.grw)
    refine wpo_load1 (v := .bool r.rd) ot_4 rfl (k426.cell rfl) rfl ?_
    refine wpo_nil ?_
    refine wpf_condt rfl h101 ?_
    refine wpf_region ?_
    refine wpo_move (v := .slice (some ⟨B419, 0, none⟩) 3 3) rfl rfl ?_
    refine wpo_indexAddr (o' := 0) es_22 rfl rfl (by omega) (by omega) rfl rfl ?_
    refine wpo_store1M (v := .int .u8 114) (cs' := #[.int .u8 114, .int .u8 45, .int .u8 45]) ot_5 rfl rfl rfl hS424.blk (Nat.le_of_ble_eq_true rfl) rfl ?_
    intro w427 hS428
    have hb429 := low1 hb425 hS428.grw (by omega)
    refine wpo_nil ?_
    refine thn_n ?_
    refine wpf_seq ?_
    refine wpf_seq_region ?_
    refine wpo_fieldAddr (o' := 0) fo_90_0 rfl rfl rfl ?_
    refine wpo_fieldAddr (o' := 3) fo_39_3 rfl rfl rfl ?_
    have k430 := (k426.gn hS428.grw)
    refine wpo_load1 (v := .bool r.wr) ot_4 rfl (k430.cell rfl) rfl ?_
    refine wpo_nil ?_
    refine wpf_condf rfl h102 ?_
    refine wpf_skip ?_
    refine thn_n ?_
    refine wpf_seq ?_
    refine wpf_seq_region ?_
    refine wpo_fieldAddr (o' := 0) fo_90_0 rfl rfl rfl ?_
    refine wpo_fieldAddr (o' := 4) fo_39_4 rfl rfl rfl ?_
    refine wpo_load1 (v := .bool r.wk) ot_4 rfl (k430.cell rfl) rfl ?_
    refine wpo_nil ?_
    refine wpf_condf rfl h311 ?_
    refine wpf_skip ?_
    refine thn_n ?_
    refine wpf_seq ?_
    refine wpf_draw (m := 12) (vals := [(21, .pointer (some ⟨B415, 0, none⟩)), (22, .pointer (some ⟨B415, 0, none⟩)), (23, .int .i64 r.th), (24, .string ⟨(dec r.th).toArray⟩), (25, .string ⟨((dec r.th) ++ ([46] : List UInt8)).toArray⟩), (26, .pointer (some ⟨B415, 0, none⟩)), (27, .pointer (some ⟨B415, 1, none⟩)), (28, .int .i64 r.ve), (29, .string ⟨(dec r.ve).toArray⟩), (30, .string ⟨(((dec r.th) ++ ([46] : List UInt8)) ++ (dec r.ve)).toArray⟩), (31, .slice (some ⟨B419, 0, none⟩) 3 3), (32, .string ⟨(ub [114, 45, 45]).toArray⟩)]) (fun w' => w427.grownBy w' none) mixed_ (by kernel_rfl) (grown_drew _) ?_ ?_
    ·
     refine yll_cons rfl (fun w463 hi464 => ?_) ?_
     ·
      have hb465 := low0 hb429 hi464
      refine wpo_fieldAddr (o' := 0) fo_90_0 rfl rfl rfl ?_
      exact wpo_nil ⟨rfl, hi464⟩
     refine yll_cons rfl (fun w466 hi467 => ?_) ?_
     ·
      have hb468 := low0 hb429 hi467
      refine wpo_fieldAddr (o' := 0) fo_39_0 rfl rfl rfl ?_
      exact wpo_nil ⟨rfl, hi467⟩
     refine yll_cons rfl (fun w469 hi470 => ?_) ?_
     ·
      have hb471 := low0 hb429 hi470
      have k472 := (k430.grown0 hi470)
      refine wpo_load1 (v := .int .i64 r.th) ot_3 rfl (k472.cell rfl) rfl ?_
      exact wpo_nil ⟨rfl, hi470⟩
     refine yll_cons rfl (fun w473 hi474 => ?_) ?_
     ·
      have hb475 := low0 hb429 hi474
      refine wpo_call (vs := [.int .i64 r.th]) gf_46 (args_cons rfl args_nil) rfl (itoas_c r.th (by omega) _) ?_
      rintro _ w476 ⟨rfl, hg477⟩
      have hb478 := low0 hb475 hg477
      exact wpo_nil ⟨rfl, (grown_trans hi474 hg477)⟩
     refine yll_cons rfl (fun w479 hi480 => ?_) ?_
     ·
      have hb481 := low0 hb429 hi480
      refine wpo_cat (a := dec r.th) (b := ([46] : List UInt8)) rfl rfl (Nat.le_trans (dec_len r.th) (by decide)) (Nat.le_trans (Nat.le_refl _) (by decide)) rfl ?_
      exact wpo_nil ⟨rfl, hi480⟩
     refine yll_cons rfl (fun w482 hi483 => ?_) ?_
     ·
      have hb484 := low0 hb429 hi483
      refine wpo_fieldAddr (o' := 0) fo_90_0 rfl rfl rfl ?_
      exact wpo_nil ⟨rfl, hi483⟩
     refine yll_cons rfl (fun w485 hi486 => ?_) ?_
     ·
      have hb487 := low0 hb429 hi486
      refine wpo_fieldAddr (o' := 1) fo_39_1 rfl rfl rfl ?_
      exact wpo_nil ⟨rfl, hi486⟩
     refine yll_cons rfl (fun w488 hi489 => ?_) ?_
     ·
      have hb490 := low0 hb429 hi489
      have k491 := (k430.grown0 hi489)
      refine wpo_load1 (v := .int .i64 r.ve) ot_3 rfl (k491.cell rfl) rfl ?_
      exact wpo_nil ⟨rfl, hi489⟩
     refine yll_cons rfl (fun w492 hi493 => ?_) ?_
     ·
      have hb494 := low0 hb429 hi493
      refine wpo_call (vs := [.int .i64 r.ve]) gf_46 (args_cons rfl args_nil) rfl (itoas_c r.ve (by omega) _) ?_
      rintro _ w495 ⟨rfl, hg496⟩
      have hb497 := low0 hb494 hg496
      exact wpo_nil ⟨rfl, (grown_trans hi493 hg496)⟩
     refine yll_cons rfl (fun w498 hi499 => ?_) ?_
     ·
      have hb500 := low0 hb429 hi499
      refine wpo_cat (a := ((dec r.th) ++ ([46] : List UInt8))) (b := dec r.ve) rfl rfl (Nat.le_trans (len_app (dec_len r.th) (Nat.le_refl _)) (by decide)) (Nat.le_trans (dec_len r.ve) (by decide)) rfl ?_
      exact wpo_nil ⟨rfl, hi499⟩
     refine yll_cons rfl (fun w501 hi502 => ?_) ?_
     ·
      have hb503 := low0 hb429 hi502
      refine wpo_move (v := .slice (some ⟨B419, 0, none⟩) 3 3) rfl rfl ?_
      exact wpo_nil ⟨rfl, hi502⟩
     refine yll_cons rfl (fun w504 hi505 => ?_) ?_
     ·
      have hb506 := low0 hb429 hi505
      have k507 := (hS428.blk.grown0 hi505)
      refine wpo_bstr (ns := [114, 45, 45]) (e := 5) rfl (by kernel_rfl) (by kernel_rfl) (by kernel_rfl) (load_blkM k507 rfl rfl) rfl ?_
      exact wpo_nil ⟨rfl, hi505⟩
     exact yll_nil
    ·
     intro w508 hi509
     have hb510 := low0 hb429 hi509
     refine wpo_cat (a := (((dec r.th) ++ ([46] : List UInt8)) ++ (dec r.ve))) (b := ub [114, 45, 45]) rfl rfl (Nat.le_trans (len_app (len_app (dec_len r.th) (Nat.le_refl _)) (dec_len r.ve)) (by decide)) (Nat.le_trans (show (ub [114, 45, 45]).length ≤ 3 from Nat.le_refl _) (by decide)) rfl ?_
     refine wpo_assign (v := .string ⟨((((dec r.th) ++ ([46] : List UInt8)) ++ (dec r.ve)) ++ (ub [114, 45, 45])).toArray⟩) rfl rfl ?_
     refine wpo_nil ?_
     refine thn_n ?_
     refine wpf_ret ?_
     refine ⟨.string ⟨((((dec r.th) ++ ([46] : List UInt8)) ++ (dec r.ve)) ++ (ub [114, 45, 45])).toArray⟩, res1 rfl rfl, ?_, hb510⟩
     exact congrArg (fun z : List UInt8 => Value.string ⟨z.toArray⟩) ((by rw [otx_eq, h101, h102, h311]; rfl))
 ·
  rcases bcases (r.wr) with h511 | h511
  ·
   rcases bcases (r.wk) with h512 | h512
   ·
    refine wpf_seq_region ?_
    refine wpo_box (v := .agg #[.int .i64 r.th, .int .i64 r.ve, .bool r.rd, .bool r.wr, .bool r.wk]) (cs := #[.int .i64 r.th, .int .i64 r.ve, .bool r.rd, .bool r.wr, .bool r.wk]) rfl rfl rfl ?_
    intro B513 w514 hN515
    have hlB513 := hN_ge hN515 hb0
    have hb516 := low0 hb0 hN515.grw
    refine wpo_assign (v := .string ⟨([] : List UInt8).toArray⟩) rfl rfl ?_
    refine wpo_nil ?_
    refine wpf_seq_region ?_
    refine wpo_buildSlice (ps := [(0, .int .u8 45), (1, .int .u8 45), (2, .int .u8 45)]) (e := 5) (cs := #[.int .u8 45, .int .u8 45, .int .u8 45]) (parts_cons rfl (parts_cons rfl (parts_cons rfl parts_nil))) (fun _ => by kernel_rfl) rfl ?_
    intro B517 w518 hN519
    have hlB517 := hN_ge hN519 hb516
    have lt_B513_B517 := hN_gtl hN519 (hN515.blk).lt
    have hb520 := low0 hb516 hN519.grw
    refine wpo_convs (e := 5) rfl (by kernel_rfl) (by kernel_rfl) hN519.blk rfl ?_
    intro w521 hS522
    have hb523 := low1 hb520 hS522.grw (by omega)
    refine wpo_assign (v := .slice (some ⟨B517, 0, none⟩) 3 3) rfl rfl ?_
    refine wpo_nil ?_
    refine wpf_seq ?_
    refine wpf_seq_region ?_
    refine wpo_fieldAddr (o' := 0) fo_90_0 rfl rfl rfl ?_
    refine wpo_fieldAddr (o' := 2) fo_39_2 rfl rfl rfl ?_
    have k524 := ((hN515.blk.grown0 hN519.grw).gn hS522.grw)
    refine wpo_load1 (v := .bool r.rd) ot_4 rfl (k524.cell rfl) rfl ?_
    refine wpo_nil ?_
    refine wpf_condf rfl h101 ?_
    refine wpf_skip ?_
    refine thn_n ?_
    refine wpf_seq ?_
    refine wpf_seq_region ?_
    refine wpo_fieldAddr (o' := 0) fo_90_0 rfl rfl rfl ?_
    refine wpo_fieldAddr (o' := 3) fo_39_3 rfl rfl rfl ?_
    refine wpo_load1 (v := .bool r.wr) ot_4 rfl (k524.cell rfl) rfl ?_
    refine wpo_nil ?_
    refine wpf_condt rfl h511 ?_
    refine wpf_region ?_
    refine wpo_move (v := .slice (some ⟨B517, 0, none⟩) 3 3) rfl rfl ?_
    refine wpo_indexAddr (o' := 1) es_22 rfl rfl (by omega) (by omega) rfl rfl ?_
    refine wpo_store1M (v := .int .u8 119) (cs' := #[.int .u8 45, .int .u8 119, .int .u8 45]) ot_5 rfl rfl rfl hS522.blk (Nat.le_of_ble_eq_true rfl) rfl ?_
    intro w525 hS526
    have hb527 := low1 hb523 hS526.grw (by omega)
    refine wpo_nil ?_
    refine thn_n ?_
    refine wpf_seq ?_
    refine wpf_seq_region ?_
    refine wpo_fieldAddr (o' := 0) fo_90_0 rfl rfl rfl ?_
    refine wpo_fieldAddr (o' := 4) fo_39_4 rfl rfl rfl ?_
    have k528 := (k524.gn hS526.grw)
    refine wpo_load1 (v := .bool r.wk) ot_4 rfl (k528.cell rfl) rfl ?_
    refine wpo_nil ?_
    refine wpf_condt rfl h512 ?_
    refine wpf_region ?_
    refine wpo_move (v := .slice (some ⟨B517, 0, none⟩) 3 3) rfl rfl ?_
    refine wpo_indexAddr (o' := 2) es_22 rfl rfl (by omega) (by omega) rfl rfl ?_
    refine wpo_store1M (v := .int .u8 107) (cs' := #[.int .u8 45, .int .u8 119, .int .u8 107]) ot_5 rfl rfl rfl hS526.blk (Nat.le_of_ble_eq_true rfl) rfl ?_
    intro w529 hS530
    have hb531 := low1 hb527 hS530.grw (by omega)
    refine wpo_nil ?_
    refine thn_n ?_
    refine wpf_seq ?_
    refine wpf_draw (m := 12) (vals := [(21, .pointer (some ⟨B513, 0, none⟩)), (22, .pointer (some ⟨B513, 0, none⟩)), (23, .int .i64 r.th), (24, .string ⟨(dec r.th).toArray⟩), (25, .string ⟨((dec r.th) ++ ([46] : List UInt8)).toArray⟩), (26, .pointer (some ⟨B513, 0, none⟩)), (27, .pointer (some ⟨B513, 1, none⟩)), (28, .int .i64 r.ve), (29, .string ⟨(dec r.ve).toArray⟩), (30, .string ⟨(((dec r.th) ++ ([46] : List UInt8)) ++ (dec r.ve)).toArray⟩), (31, .slice (some ⟨B517, 0, none⟩) 3 3), (32, .string ⟨(ub [45, 119, 107]).toArray⟩)]) (fun w' => w529.grownBy w' none) mixed_ (by kernel_rfl) (grown_drew _) ?_ ?_
    ·
     refine yll_cons rfl (fun w568 hi569 => ?_) ?_
     ·
      have hb570 := low0 hb531 hi569
      refine wpo_fieldAddr (o' := 0) fo_90_0 rfl rfl rfl ?_
      exact wpo_nil ⟨rfl, hi569⟩
     refine yll_cons rfl (fun w571 hi572 => ?_) ?_
     ·
      have hb573 := low0 hb531 hi572
      refine wpo_fieldAddr (o' := 0) fo_39_0 rfl rfl rfl ?_
      exact wpo_nil ⟨rfl, hi572⟩
     refine yll_cons rfl (fun w574 hi575 => ?_) ?_
     ·
      have hb576 := low0 hb531 hi575
      have k577 := ((k528.gn hS530.grw).grown0 hi575)
      refine wpo_load1 (v := .int .i64 r.th) ot_3 rfl (k577.cell rfl) rfl ?_
      exact wpo_nil ⟨rfl, hi575⟩
     refine yll_cons rfl (fun w578 hi579 => ?_) ?_
     ·
      have hb580 := low0 hb531 hi579
      refine wpo_call (vs := [.int .i64 r.th]) gf_46 (args_cons rfl args_nil) rfl (itoas_c r.th (by omega) _) ?_
      rintro _ w581 ⟨rfl, hg582⟩
      have hb583 := low0 hb580 hg582
      exact wpo_nil ⟨rfl, (grown_trans hi579 hg582)⟩
     refine yll_cons rfl (fun w584 hi585 => ?_) ?_
     ·
      have hb586 := low0 hb531 hi585
      refine wpo_cat (a := dec r.th) (b := ([46] : List UInt8)) rfl rfl (Nat.le_trans (dec_len r.th) (by decide)) (Nat.le_trans (Nat.le_refl _) (by decide)) rfl ?_
      exact wpo_nil ⟨rfl, hi585⟩
     refine yll_cons rfl (fun w587 hi588 => ?_) ?_
     ·
      have hb589 := low0 hb531 hi588
      refine wpo_fieldAddr (o' := 0) fo_90_0 rfl rfl rfl ?_
      exact wpo_nil ⟨rfl, hi588⟩
     refine yll_cons rfl (fun w590 hi591 => ?_) ?_
     ·
      have hb592 := low0 hb531 hi591
      refine wpo_fieldAddr (o' := 1) fo_39_1 rfl rfl rfl ?_
      exact wpo_nil ⟨rfl, hi591⟩
     refine yll_cons rfl (fun w593 hi594 => ?_) ?_
     ·
      have hb595 := low0 hb531 hi594
      have k596 := ((k528.gn hS530.grw).grown0 hi594)
      refine wpo_load1 (v := .int .i64 r.ve) ot_3 rfl (k596.cell rfl) rfl ?_
      exact wpo_nil ⟨rfl, hi594⟩
     refine yll_cons rfl (fun w597 hi598 => ?_) ?_
     ·
      have hb599 := low0 hb531 hi598
      refine wpo_call (vs := [.int .i64 r.ve]) gf_46 (args_cons rfl args_nil) rfl (itoas_c r.ve (by omega) _) ?_
      rintro _ w600 ⟨rfl, hg601⟩
      have hb602 := low0 hb599 hg601
      exact wpo_nil ⟨rfl, (grown_trans hi598 hg601)⟩
     refine yll_cons rfl (fun w603 hi604 => ?_) ?_
     ·
      have hb605 := low0 hb531 hi604
      refine wpo_cat (a := ((dec r.th) ++ ([46] : List UInt8))) (b := dec r.ve) rfl rfl (Nat.le_trans (len_app (dec_len r.th) (Nat.le_refl _)) (by decide)) (Nat.le_trans (dec_len r.ve) (by decide)) rfl ?_
      exact wpo_nil ⟨rfl, hi604⟩
     refine yll_cons rfl (fun w606 hi607 => ?_) ?_
     ·
      have hb608 := low0 hb531 hi607
      refine wpo_move (v := .slice (some ⟨B517, 0, none⟩) 3 3) rfl rfl ?_
      exact wpo_nil ⟨rfl, hi607⟩
     refine yll_cons rfl (fun w609 hi610 => ?_) ?_
     ·
      have hb611 := low0 hb531 hi610
      have k612 := (hS530.blk.grown0 hi610)
      refine wpo_bstr (ns := [45, 119, 107]) (e := 5) rfl (by kernel_rfl) (by kernel_rfl) (by kernel_rfl) (load_blkM k612 rfl rfl) rfl ?_
      exact wpo_nil ⟨rfl, hi610⟩
     exact yll_nil
    ·
     intro w613 hi614
     have hb615 := low0 hb531 hi614
     refine wpo_cat (a := (((dec r.th) ++ ([46] : List UInt8)) ++ (dec r.ve))) (b := ub [45, 119, 107]) rfl rfl (Nat.le_trans (len_app (len_app (dec_len r.th) (Nat.le_refl _)) (dec_len r.ve)) (by decide)) (Nat.le_trans (show (ub [45, 119, 107]).length ≤ 3 from Nat.le_refl _) (by decide)) rfl ?_
     refine wpo_assign (v := .string ⟨((((dec r.th) ++ ([46] : List UInt8)) ++ (dec r.ve)) ++ (ub [45, 119, 107])).toArray⟩) rfl rfl ?_
     refine wpo_nil ?_
     refine thn_n ?_
     refine wpf_ret ?_
     refine ⟨.string ⟨((((dec r.th) ++ ([46] : List UInt8)) ++ (dec r.ve)) ++ (ub [45, 119, 107])).toArray⟩, res1 rfl rfl, ?_, hb615⟩
     exact congrArg (fun z : List UInt8 => Value.string ⟨z.toArray⟩) ((by rw [otx_eq, h101, h511, h512]; rfl))
   ·
    refine wpf_seq_region ?_
    refine wpo_box (v := .agg #[.int .i64 r.th, .int .i64 r.ve, .bool r.rd, .bool r.wr, .bool r.wk]) (cs := #[.int .i64 r.th, .int .i64 r.ve, .bool r.rd, .bool r.wr, .bool r.wk]) rfl rfl rfl ?_
    intro B616 w617 hN618
    have hlB616 := hN_ge hN618 hb0
    have hb619 := low0 hb0 hN618.grw
    refine wpo_assign (v := .string ⟨([] : List UInt8).toArray⟩) rfl rfl ?_
    refine wpo_nil ?_
    refine wpf_seq_region ?_
    refine wpo_buildSlice (ps := [(0, .int .u8 45), (1, .int .u8 45), (2, .int .u8 45)]) (e := 5) (cs := #[.int .u8 45, .int .u8 45, .int .u8 45]) (parts_cons rfl (parts_cons rfl (parts_cons rfl parts_nil))) (fun _ => by kernel_rfl) rfl ?_
    intro B620 w621 hN622
    have hlB620 := hN_ge hN622 hb619
    have lt_B616_B620 := hN_gtl hN622 (hN618.blk).lt
    have hb623 := low0 hb619 hN622.grw
    refine wpo_convs (e := 5) rfl (by kernel_rfl) (by kernel_rfl) hN622.blk rfl ?_
    intro w624 hS625
    have hb626 := low1 hb623 hS625.grw (by omega)
    refine wpo_assign (v := .slice (some ⟨B620, 0, none⟩) 3 3) rfl rfl ?_
    refine wpo_nil ?_
    refine wpf_seq ?_
    refine wpf_seq_region ?_
    refine wpo_fieldAddr (o' := 0) fo_90_0 rfl rfl rfl ?_
    refine wpo_fieldAddr (o' := 2) fo_39_2 rfl rfl rfl ?_
    have k627 := ((hN618.blk.grown0 hN622.grw).gn hS625.grw)
    refine wpo_load1 (v := .bool r.rd) ot_4 rfl (k627.cell rfl) rfl ?_
    refine wpo_nil ?_
    refine wpf_condf rfl h101 ?_
    refine wpf_skip ?_
    refine thn_n ?_
    refine wpf_seq ?_
    refine wpf_seq_region ?_
    refine wpo_fieldAddr (o' := 0) fo_90_0 rfl rfl rfl ?_
    refine wpo_fieldAddr (o' := 3) fo_39_3 rfl rfl rfl ?_
    refine wpo_load1 (v := .bool r.wr) ot_4 rfl (k627.cell rfl) rfl ?_
    refine wpo_nil ?_
    refine wpf_condt rfl h511 ?_
    refine wpf_region ?_
    refine wpo_move (v := .slice (some ⟨B620, 0, none⟩) 3 3) rfl rfl ?_
    refine wpo_indexAddr (o' := 1) es_22 rfl rfl (by omega) (by omega) rfl rfl ?_
    refine wpo_store1M (v := .int .u8 119) (cs' := #[.int .u8 45, .int .u8 119, .int .u8 45]) ot_5 rfl rfl rfl hS625.blk (Nat.le_of_ble_eq_true rfl) rfl ?_
    intro w628 hS629
    have hb630 := low1 hb626 hS629.grw (by omega)
    refine wpo_nil ?_
    refine thn_n ?_
    refine wpf_seq ?_
    refine wpf_seq_region ?_
    refine wpo_fieldAddr (o' := 0) fo_90_0 rfl rfl rfl ?_
    refine wpo_fieldAddr (o' := 4) fo_39_4 rfl rfl rfl ?_
    have k631 := (k627.gn hS629.grw)
    refine wpo_load1 (v := .bool r.wk) ot_4 rfl (k631.cell rfl) rfl ?_
    refine wpo_nil ?_
    refine wpf_condf rfl h512 ?_
    refine wpf_skip ?_
    refine thn_n ?_
    refine wpf_seq ?_
    refine wpf_draw (m := 12) (vals := [(21, .pointer (some ⟨B616, 0, none⟩)), (22, .pointer (some ⟨B616, 0, none⟩)), (23, .int .i64 r.th), (24, .string ⟨(dec r.th).toArray⟩), (25, .string ⟨((dec r.th) ++ ([46] : List UInt8)).toArray⟩), (26, .pointer (some ⟨B616, 0, none⟩)), (27, .pointer (some ⟨B616, 1, none⟩)), (28, .int .i64 r.ve), (29, .string ⟨(dec r.ve).toArray⟩), (30, .string ⟨(((dec r.th) ++ ([46] : List UInt8)) ++ (dec r.ve)).toArray⟩), (31, .slice (some ⟨B620, 0, none⟩) 3 3), (32, .string ⟨(ub [45, 119, 45]).toArray⟩)]) (fun w' => w628.grownBy w' none) mixed_ (by kernel_rfl) (grown_drew _) ?_ ?_
    ·
     refine yll_cons rfl (fun w664 hi665 => ?_) ?_
     ·
      have hb666 := low0 hb630 hi665
      refine wpo_fieldAddr (o' := 0) fo_90_0 rfl rfl rfl ?_
      exact wpo_nil ⟨rfl, hi665⟩
     refine yll_cons rfl (fun w667 hi668 => ?_) ?_
     ·
      have hb669 := low0 hb630 hi668
      refine wpo_fieldAddr (o' := 0) fo_39_0 rfl rfl rfl ?_
      exact wpo_nil ⟨rfl, hi668⟩
     refine yll_cons rfl (fun w670 hi671 => ?_) ?_
     ·
      have hb672 := low0 hb630 hi671
      have k673 := (k631.grown0 hi671)
      refine wpo_load1 (v := .int .i64 r.th) ot_3 rfl (k673.cell rfl) rfl ?_
      exact wpo_nil ⟨rfl, hi671⟩
     refine yll_cons rfl (fun w674 hi675 => ?_) ?_
     ·
      have hb676 := low0 hb630 hi675
      refine wpo_call (vs := [.int .i64 r.th]) gf_46 (args_cons rfl args_nil) rfl (itoas_c r.th (by omega) _) ?_
      rintro _ w677 ⟨rfl, hg678⟩
      have hb679 := low0 hb676 hg678
      exact wpo_nil ⟨rfl, (grown_trans hi675 hg678)⟩
     refine yll_cons rfl (fun w680 hi681 => ?_) ?_
     ·
      have hb682 := low0 hb630 hi681
      refine wpo_cat (a := dec r.th) (b := ([46] : List UInt8)) rfl rfl (Nat.le_trans (dec_len r.th) (by decide)) (Nat.le_trans (Nat.le_refl _) (by decide)) rfl ?_
      exact wpo_nil ⟨rfl, hi681⟩
     refine yll_cons rfl (fun w683 hi684 => ?_) ?_
     ·
      have hb685 := low0 hb630 hi684
      refine wpo_fieldAddr (o' := 0) fo_90_0 rfl rfl rfl ?_
      exact wpo_nil ⟨rfl, hi684⟩
     refine yll_cons rfl (fun w686 hi687 => ?_) ?_
     ·
      have hb688 := low0 hb630 hi687
      refine wpo_fieldAddr (o' := 1) fo_39_1 rfl rfl rfl ?_
      exact wpo_nil ⟨rfl, hi687⟩
     refine yll_cons rfl (fun w689 hi690 => ?_) ?_
     ·
      have hb691 := low0 hb630 hi690
      have k692 := (k631.grown0 hi690)
      refine wpo_load1 (v := .int .i64 r.ve) ot_3 rfl (k692.cell rfl) rfl ?_
      exact wpo_nil ⟨rfl, hi690⟩
     refine yll_cons rfl (fun w693 hi694 => ?_) ?_
     ·
      have hb695 := low0 hb630 hi694
      refine wpo_call (vs := [.int .i64 r.ve]) gf_46 (args_cons rfl args_nil) rfl (itoas_c r.ve (by omega) _) ?_
      rintro _ w696 ⟨rfl, hg697⟩
      have hb698 := low0 hb695 hg697
      exact wpo_nil ⟨rfl, (grown_trans hi694 hg697)⟩
     refine yll_cons rfl (fun w699 hi700 => ?_) ?_
     ·
      have hb701 := low0 hb630 hi700
      refine wpo_cat (a := ((dec r.th) ++ ([46] : List UInt8))) (b := dec r.ve) rfl rfl (Nat.le_trans (len_app (dec_len r.th) (Nat.le_refl _)) (by decide)) (Nat.le_trans (dec_len r.ve) (by decide)) rfl ?_
      exact wpo_nil ⟨rfl, hi700⟩
     refine yll_cons rfl (fun w702 hi703 => ?_) ?_
     ·
      have hb704 := low0 hb630 hi703
      refine wpo_move (v := .slice (some ⟨B620, 0, none⟩) 3 3) rfl rfl ?_
      exact wpo_nil ⟨rfl, hi703⟩
     refine yll_cons rfl (fun w705 hi706 => ?_) ?_
     ·
      have hb707 := low0 hb630 hi706
      have k708 := (hS629.blk.grown0 hi706)
      refine wpo_bstr (ns := [45, 119, 45]) (e := 5) rfl (by kernel_rfl) (by kernel_rfl) (by kernel_rfl) (load_blkM k708 rfl rfl) rfl ?_
      exact wpo_nil ⟨rfl, hi706⟩
     exact yll_nil
    ·
     intro w709 hi710
     have hb711 := low0 hb630 hi710
     refine wpo_cat (a := (((dec r.th) ++ ([46] : List UInt8)) ++ (dec r.ve))) (b := ub [45, 119, 45]) rfl rfl (Nat.le_trans (len_app (len_app (dec_len r.th) (Nat.le_refl _)) (dec_len r.ve)) (by decide)) (Nat.le_trans (show (ub [45, 119, 45]).length ≤ 3 from Nat.le_refl _) (by decide)) rfl ?_
     refine wpo_assign (v := .string ⟨((((dec r.th) ++ ([46] : List UInt8)) ++ (dec r.ve)) ++ (ub [45, 119, 45])).toArray⟩) rfl rfl ?_
     refine wpo_nil ?_
     refine thn_n ?_
     refine wpf_ret ?_
     refine ⟨.string ⟨((((dec r.th) ++ ([46] : List UInt8)) ++ (dec r.ve)) ++ (ub [45, 119, 45])).toArray⟩, res1 rfl rfl, ?_, hb711⟩
     exact congrArg (fun z : List UInt8 => Value.string ⟨z.toArray⟩) ((by rw [otx_eq, h101, h511, h512]; rfl))
  ·
   rcases bcases (r.wk) with h712 | h712
   ·
    refine wpf_seq_region ?_
    refine wpo_box (v := .agg #[.int .i64 r.th, .int .i64 r.ve, .bool r.rd, .bool r.wr, .bool r.wk]) (cs := #[.int .i64 r.th, .int .i64 r.ve, .bool r.rd, .bool r.wr, .bool r.wk]) rfl rfl rfl ?_
    intro B713 w714 hN715
    have hlB713 := hN_ge hN715 hb0
    have hb716 := low0 hb0 hN715.grw
    refine wpo_assign (v := .string ⟨([] : List UInt8).toArray⟩) rfl rfl ?_
    refine wpo_nil ?_
    refine wpf_seq_region ?_
    refine wpo_buildSlice (ps := [(0, .int .u8 45), (1, .int .u8 45), (2, .int .u8 45)]) (e := 5) (cs := #[.int .u8 45, .int .u8 45, .int .u8 45]) (parts_cons rfl (parts_cons rfl (parts_cons rfl parts_nil))) (fun _ => by kernel_rfl) rfl ?_
    intro B717 w718 hN719
    have hlB717 := hN_ge hN719 hb716
    have lt_B713_B717 := hN_gtl hN719 (hN715.blk).lt
    have hb720 := low0 hb716 hN719.grw
    refine wpo_convs (e := 5) rfl (by kernel_rfl) (by kernel_rfl) hN719.blk rfl ?_
    intro w721 hS722
    have hb723 := low1 hb720 hS722.grw (by omega)
    refine wpo_assign (v := .slice (some ⟨B717, 0, none⟩) 3 3) rfl rfl ?_
    refine wpo_nil ?_
    refine wpf_seq ?_
    refine wpf_seq_region ?_
    refine wpo_fieldAddr (o' := 0) fo_90_0 rfl rfl rfl ?_
    refine wpo_fieldAddr (o' := 2) fo_39_2 rfl rfl rfl ?_
    have k724 := ((hN715.blk.grown0 hN719.grw).gn hS722.grw)
    refine wpo_load1 (v := .bool r.rd) ot_4 rfl (k724.cell rfl) rfl ?_
    refine wpo_nil ?_
    refine wpf_condf rfl h101 ?_
    refine wpf_skip ?_
    refine thn_n ?_
    refine wpf_seq ?_
    refine wpf_seq_region ?_
    refine wpo_fieldAddr (o' := 0) fo_90_0 rfl rfl rfl ?_
    refine wpo_fieldAddr (o' := 3) fo_39_3 rfl rfl rfl ?_
    refine wpo_load1 (v := .bool r.wr) ot_4 rfl (k724.cell rfl) rfl ?_
    refine wpo_nil ?_
    refine wpf_condf rfl h511 ?_
    refine wpf_skip ?_
    refine thn_n ?_
    refine wpf_seq ?_
    refine wpf_seq_region ?_
    refine wpo_fieldAddr (o' := 0) fo_90_0 rfl rfl rfl ?_
    refine wpo_fieldAddr (o' := 4) fo_39_4 rfl rfl rfl ?_
    refine wpo_load1 (v := .bool r.wk) ot_4 rfl (k724.cell rfl) rfl ?_
    refine wpo_nil ?_
    refine wpf_condt rfl h712 ?_
    refine wpf_region ?_
    refine wpo_move (v := .slice (some ⟨B717, 0, none⟩) 3 3) rfl rfl ?_
    refine wpo_indexAddr (o' := 2) es_22 rfl rfl (by omega) (by omega) rfl rfl ?_
    refine wpo_store1M (v := .int .u8 107) (cs' := #[.int .u8 45, .int .u8 45, .int .u8 107]) ot_5 rfl rfl rfl hS722.blk (Nat.le_of_ble_eq_true rfl) rfl ?_
    intro w725 hS726
    have hb727 := low1 hb723 hS726.grw (by omega)
    refine wpo_nil ?_
    refine thn_n ?_
    refine wpf_seq ?_
    refine wpf_draw (m := 12) (vals := [(21, .pointer (some ⟨B713, 0, none⟩)), (22, .pointer (some ⟨B713, 0, none⟩)), (23, .int .i64 r.th), (24, .string ⟨(dec r.th).toArray⟩), (25, .string ⟨((dec r.th) ++ ([46] : List UInt8)).toArray⟩), (26, .pointer (some ⟨B713, 0, none⟩)), (27, .pointer (some ⟨B713, 1, none⟩)), (28, .int .i64 r.ve), (29, .string ⟨(dec r.ve).toArray⟩), (30, .string ⟨(((dec r.th) ++ ([46] : List UInt8)) ++ (dec r.ve)).toArray⟩), (31, .slice (some ⟨B717, 0, none⟩) 3 3), (32, .string ⟨(ub [45, 45, 107]).toArray⟩)]) (fun w' => w725.grownBy w' none) mixed_ (by kernel_rfl) (grown_drew _) ?_ ?_
    ·
     refine yll_cons rfl (fun w764 hi765 => ?_) ?_
     ·
      have hb766 := low0 hb727 hi765
      refine wpo_fieldAddr (o' := 0) fo_90_0 rfl rfl rfl ?_
      exact wpo_nil ⟨rfl, hi765⟩
     refine yll_cons rfl (fun w767 hi768 => ?_) ?_
     ·
      have hb769 := low0 hb727 hi768
      refine wpo_fieldAddr (o' := 0) fo_39_0 rfl rfl rfl ?_
      exact wpo_nil ⟨rfl, hi768⟩
     refine yll_cons rfl (fun w770 hi771 => ?_) ?_
     ·
      have hb772 := low0 hb727 hi771
      have k773 := ((k724.gn hS726.grw).grown0 hi771)
      refine wpo_load1 (v := .int .i64 r.th) ot_3 rfl (k773.cell rfl) rfl ?_
      exact wpo_nil ⟨rfl, hi771⟩
     refine yll_cons rfl (fun w774 hi775 => ?_) ?_
     ·
      have hb776 := low0 hb727 hi775
      refine wpo_call (vs := [.int .i64 r.th]) gf_46 (args_cons rfl args_nil) rfl (itoas_c r.th (by omega) _) ?_
      rintro _ w777 ⟨rfl, hg778⟩
      have hb779 := low0 hb776 hg778
      exact wpo_nil ⟨rfl, (grown_trans hi775 hg778)⟩
     refine yll_cons rfl (fun w780 hi781 => ?_) ?_
     ·
      have hb782 := low0 hb727 hi781
      refine wpo_cat (a := dec r.th) (b := ([46] : List UInt8)) rfl rfl (Nat.le_trans (dec_len r.th) (by decide)) (Nat.le_trans (Nat.le_refl _) (by decide)) rfl ?_
      exact wpo_nil ⟨rfl, hi781⟩
     refine yll_cons rfl (fun w783 hi784 => ?_) ?_
     ·
      have hb785 := low0 hb727 hi784
      refine wpo_fieldAddr (o' := 0) fo_90_0 rfl rfl rfl ?_
      exact wpo_nil ⟨rfl, hi784⟩
     refine yll_cons rfl (fun w786 hi787 => ?_) ?_
     ·
      have hb788 := low0 hb727 hi787
      refine wpo_fieldAddr (o' := 1) fo_39_1 rfl rfl rfl ?_
      exact wpo_nil ⟨rfl, hi787⟩
     refine yll_cons rfl (fun w789 hi790 => ?_) ?_
     ·
      have hb791 := low0 hb727 hi790
      have k792 := ((k724.gn hS726.grw).grown0 hi790)
      refine wpo_load1 (v := .int .i64 r.ve) ot_3 rfl (k792.cell rfl) rfl ?_
      exact wpo_nil ⟨rfl, hi790⟩
     refine yll_cons rfl (fun w793 hi794 => ?_) ?_
     ·
      have hb795 := low0 hb727 hi794
      refine wpo_call (vs := [.int .i64 r.ve]) gf_46 (args_cons rfl args_nil) rfl (itoas_c r.ve (by omega) _) ?_
      rintro _ w796 ⟨rfl, hg797⟩
      have hb798 := low0 hb795 hg797
      exact wpo_nil ⟨rfl, (grown_trans hi794 hg797)⟩
     refine yll_cons rfl (fun w799 hi800 => ?_) ?_
     ·
      have hb801 := low0 hb727 hi800
      refine wpo_cat (a := ((dec r.th) ++ ([46] : List UInt8))) (b := dec r.ve) rfl rfl (Nat.le_trans (len_app (dec_len r.th) (Nat.le_refl _)) (by decide)) (Nat.le_trans (dec_len r.ve) (by decide)) rfl ?_
      exact wpo_nil ⟨rfl, hi800⟩
     refine yll_cons rfl (fun w802 hi803 => ?_) ?_
     ·
      have hb804 := low0 hb727 hi803
      refine wpo_move (v := .slice (some ⟨B717, 0, none⟩) 3 3) rfl rfl ?_
      exact wpo_nil ⟨rfl, hi803⟩
     refine yll_cons rfl (fun w805 hi806 => ?_) ?_
     ·
      have hb807 := low0 hb727 hi806
      have k808 := (hS726.blk.grown0 hi806)
      refine wpo_bstr (ns := [45, 45, 107]) (e := 5) rfl (by kernel_rfl) (by kernel_rfl) (by kernel_rfl) (load_blkM k808 rfl rfl) rfl ?_
      exact wpo_nil ⟨rfl, hi806⟩
     exact yll_nil
    ·
     intro w809 hi810
     have hb811 := low0 hb727 hi810
     refine wpo_cat (a := (((dec r.th) ++ ([46] : List UInt8)) ++ (dec r.ve))) (b := ub [45, 45, 107]) rfl rfl (Nat.le_trans (len_app (len_app (dec_len r.th) (Nat.le_refl _)) (dec_len r.ve)) (by decide)) (Nat.le_trans (show (ub [45, 45, 107]).length ≤ 3 from Nat.le_refl _) (by decide)) rfl ?_
     refine wpo_assign (v := .string ⟨((((dec r.th) ++ ([46] : List UInt8)) ++ (dec r.ve)) ++ (ub [45, 45, 107])).toArray⟩) rfl rfl ?_
     refine wpo_nil ?_
     refine thn_n ?_
     refine wpf_ret ?_
     refine ⟨.string ⟨((((dec r.th) ++ ([46] : List UInt8)) ++ (dec r.ve)) ++ (ub [45, 45, 107])).toArray⟩, res1 rfl rfl, ?_, hb811⟩
     exact congrArg (fun z : List UInt8 => Value.string ⟨z.toArray⟩) ((by rw [otx_eq, h101, h511, h712]; rfl))
   ·
    refine wpf_seq_region ?_
    refine wpo_box (v := .agg #[.int .i64 r.th, .int .i64 r.ve, .bool r.rd, .bool r.wr, .bool r.wk]) (cs := #[.int .i64 r.th, .int .i64 r.ve, .bool r.rd, .bool r.wr, .bool r.wk]) rfl rfl rfl ?_
    intro B812 w813 hN814
    have hlB812 := hN_ge hN814 hb0
    have hb815 := low0 hb0 hN814.grw
    refine wpo_assign (v := .string ⟨([] : List UInt8).toArray⟩) rfl rfl ?_
    refine wpo_nil ?_
    refine wpf_seq_region ?_
    refine wpo_buildSlice (ps := [(0, .int .u8 45), (1, .int .u8 45), (2, .int .u8 45)]) (e := 5) (cs := #[.int .u8 45, .int .u8 45, .int .u8 45]) (parts_cons rfl (parts_cons rfl (parts_cons rfl parts_nil))) (fun _ => by kernel_rfl) rfl ?_
    intro B816 w817 hN818
    have hlB816 := hN_ge hN818 hb815
    have lt_B812_B816 := hN_gtl hN818 (hN814.blk).lt
    have hb819 := low0 hb815 hN818.grw
    refine wpo_convs (e := 5) rfl (by kernel_rfl) (by kernel_rfl) hN818.blk rfl ?_
    intro w820 hS821
    have hb822 := low1 hb819 hS821.grw (by omega)
    refine wpo_assign (v := .slice (some ⟨B816, 0, none⟩) 3 3) rfl rfl ?_
    refine wpo_nil ?_
    refine wpf_seq ?_
    refine wpf_seq_region ?_
    refine wpo_fieldAddr (o' := 0) fo_90_0 rfl rfl rfl ?_
    refine wpo_fieldAddr (o' := 2) fo_39_2 rfl rfl rfl ?_
    have k823 := ((hN814.blk.grown0 hN818.grw).gn hS821.grw)
    refine wpo_load1 (v := .bool r.rd) ot_4 rfl (k823.cell rfl) rfl ?_
    refine wpo_nil ?_
    refine wpf_condf rfl h101 ?_
    refine wpf_skip ?_
    refine thn_n ?_
    refine wpf_seq ?_
    refine wpf_seq_region ?_
    refine wpo_fieldAddr (o' := 0) fo_90_0 rfl rfl rfl ?_
    refine wpo_fieldAddr (o' := 3) fo_39_3 rfl rfl rfl ?_
    refine wpo_load1 (v := .bool r.wr) ot_4 rfl (k823.cell rfl) rfl ?_
    refine wpo_nil ?_
    refine wpf_condf rfl h511 ?_
    refine wpf_skip ?_
    refine thn_n ?_
    refine wpf_seq ?_
    refine wpf_seq_region ?_
    refine wpo_fieldAddr (o' := 0) fo_90_0 rfl rfl rfl ?_
    refine wpo_fieldAddr (o' := 4) fo_39_4 rfl rfl rfl ?_
    refine wpo_load1 (v := .bool r.wk) ot_4 rfl (k823.cell rfl) rfl ?_
    refine wpo_nil ?_
    refine wpf_condf rfl h712 ?_
    refine wpf_skip ?_
    refine thn_n ?_
    refine wpf_seq ?_
    refine wpf_draw (m := 12) (vals := [(21, .pointer (some ⟨B812, 0, none⟩)), (22, .pointer (some ⟨B812, 0, none⟩)), (23, .int .i64 r.th), (24, .string ⟨(dec r.th).toArray⟩), (25, .string ⟨((dec r.th) ++ ([46] : List UInt8)).toArray⟩), (26, .pointer (some ⟨B812, 0, none⟩)), (27, .pointer (some ⟨B812, 1, none⟩)), (28, .int .i64 r.ve), (29, .string ⟨(dec r.ve).toArray⟩), (30, .string ⟨(((dec r.th) ++ ([46] : List UInt8)) ++ (dec r.ve)).toArray⟩), (31, .slice (some ⟨B816, 0, none⟩) 3 3), (32, .string ⟨(ub [45, 45, 45]).toArray⟩)]) (fun w' => w820.grownBy w' none) mixed_ (by kernel_rfl) (grown_drew _) ?_ ?_
    ·
     refine yll_cons rfl (fun w856 hi857 => ?_) ?_
     ·
      have hb858 := low0 hb822 hi857
      refine wpo_fieldAddr (o' := 0) fo_90_0 rfl rfl rfl ?_
      exact wpo_nil ⟨rfl, hi857⟩
     refine yll_cons rfl (fun w859 hi860 => ?_) ?_
     ·
      have hb861 := low0 hb822 hi860
      refine wpo_fieldAddr (o' := 0) fo_39_0 rfl rfl rfl ?_
      exact wpo_nil ⟨rfl, hi860⟩
     refine yll_cons rfl (fun w862 hi863 => ?_) ?_
     ·
      have hb864 := low0 hb822 hi863
      have k865 := (k823.grown0 hi863)
      refine wpo_load1 (v := .int .i64 r.th) ot_3 rfl (k865.cell rfl) rfl ?_
      exact wpo_nil ⟨rfl, hi863⟩
     refine yll_cons rfl (fun w866 hi867 => ?_) ?_
     ·
      have hb868 := low0 hb822 hi867
      refine wpo_call (vs := [.int .i64 r.th]) gf_46 (args_cons rfl args_nil) rfl (itoas_c r.th (by omega) _) ?_
      rintro _ w869 ⟨rfl, hg870⟩
      have hb871 := low0 hb868 hg870
      exact wpo_nil ⟨rfl, (grown_trans hi867 hg870)⟩
     refine yll_cons rfl (fun w872 hi873 => ?_) ?_
     ·
      have hb874 := low0 hb822 hi873
      refine wpo_cat (a := dec r.th) (b := ([46] : List UInt8)) rfl rfl (Nat.le_trans (dec_len r.th) (by decide)) (Nat.le_trans (Nat.le_refl _) (by decide)) rfl ?_
      exact wpo_nil ⟨rfl, hi873⟩
     refine yll_cons rfl (fun w875 hi876 => ?_) ?_
     ·
      have hb877 := low0 hb822 hi876
      refine wpo_fieldAddr (o' := 0) fo_90_0 rfl rfl rfl ?_
      exact wpo_nil ⟨rfl, hi876⟩
     refine yll_cons rfl (fun w878 hi879 => ?_) ?_
     ·
      have hb880 := low0 hb822 hi879
      refine wpo_fieldAddr (o' := 1) fo_39_1 rfl rfl rfl ?_
      exact wpo_nil ⟨rfl, hi879⟩
     refine yll_cons rfl (fun w881 hi882 => ?_) ?_
     ·
      have hb883 := low0 hb822 hi882
      have k884 := (k823.grown0 hi882)
      refine wpo_load1 (v := .int .i64 r.ve) ot_3 rfl (k884.cell rfl) rfl ?_
      exact wpo_nil ⟨rfl, hi882⟩
     refine yll_cons rfl (fun w885 hi886 => ?_) ?_
     ·
      have hb887 := low0 hb822 hi886
      refine wpo_call (vs := [.int .i64 r.ve]) gf_46 (args_cons rfl args_nil) rfl (itoas_c r.ve (by omega) _) ?_
      rintro _ w888 ⟨rfl, hg889⟩
      have hb890 := low0 hb887 hg889
      exact wpo_nil ⟨rfl, (grown_trans hi886 hg889)⟩
     refine yll_cons rfl (fun w891 hi892 => ?_) ?_
     ·
      have hb893 := low0 hb822 hi892
      refine wpo_cat (a := ((dec r.th) ++ ([46] : List UInt8))) (b := dec r.ve) rfl rfl (Nat.le_trans (len_app (dec_len r.th) (Nat.le_refl _)) (by decide)) (Nat.le_trans (dec_len r.ve) (by decide)) rfl ?_
      exact wpo_nil ⟨rfl, hi892⟩
     refine yll_cons rfl (fun w894 hi895 => ?_) ?_
     ·
      have hb896 := low0 hb822 hi895
      refine wpo_move (v := .slice (some ⟨B816, 0, none⟩) 3 3) rfl rfl ?_
      exact wpo_nil ⟨rfl, hi895⟩
     refine yll_cons rfl (fun w897 hi898 => ?_) ?_
     ·
      have hb899 := low0 hb822 hi898
      have k900 := (hS821.blk.grown0 hi898)
      refine wpo_bstr (ns := [45, 45, 45]) (e := 5) rfl (by kernel_rfl) (by kernel_rfl) (by kernel_rfl) (load_blkM k900 rfl rfl) rfl ?_
      exact wpo_nil ⟨rfl, hi898⟩
     exact yll_nil
    ·
     intro w901 hi902
     have hb903 := low0 hb822 hi902
     refine wpo_cat (a := (((dec r.th) ++ ([46] : List UInt8)) ++ (dec r.ve))) (b := ub [45, 45, 45]) rfl rfl (Nat.le_trans (len_app (len_app (dec_len r.th) (Nat.le_refl _)) (dec_len r.ve)) (by decide)) (Nat.le_trans (show (ub [45, 45, 45]).length ≤ 3 from Nat.le_refl _) (by decide)) rfl ?_
     refine wpo_assign (v := .string ⟨((((dec r.th) ++ ([46] : List UInt8)) ++ (dec r.ve)) ++ (ub [45, 45, 45])).toArray⟩) rfl rfl ?_
     refine wpo_nil ?_
     refine thn_n ?_
     refine wpf_ret ?_
     refine ⟨.string ⟨((((dec r.th) ++ ([46] : List UInt8)) ++ (dec r.ve)) ++ (ub [45, 45, 45])).toArray⟩, res1 rfl rfl, ?_, hb903⟩
     exact congrArg (fun z : List UInt8 => Value.string ⟨z.toArray⟩) ((by rw [otx_eq, h101, h511, h712]; rfl))

theorem irtx_c (r : Rt) (w : World) : CallsR Tryd.prog 49 #[.agg #[.int .i64 r.th, .int .i64 r.ve, .bool r.rd, .bool r.wr, .bool r.wk]] w (fun v w' => v = .string ⟨(rtx r).toArray⟩ ∧ w.grownBy w' none) := by
 refine calls_of_wpf (n := 9) Tryd.func49 rfl Tryd.ntmps49 rfl ?_
 have hb0 := World.grownBy.refl w none
 rcases bcases (decide (r.th = 0)) with h101 | h101
 ·
  have h102 := of_decide_eq_true h101
  refine wpf_seq_region ?_
  refine wpo_box (v := .agg #[.int .i64 r.th, .int .i64 r.ve, .bool r.rd, .bool r.wr, .bool r.wk]) (cs := #[.int .i64 r.th, .int .i64 r.ve, .bool r.rd, .bool r.wr, .bool r.wk]) rfl rfl rfl ?_
  intro B103 w104 hN105
  have hlB103 := hN_ge hN105 hb0
  have hb106 := low0 hb0 hN105.grw
  refine wpo_assign (v := .string ⟨([] : List UInt8).toArray⟩) rfl rfl ?_
  refine wpo_nil ?_
  refine wpf_seq ?_
  refine wpf_seq_region ?_
  refine wpo_loadn (vs := [.int .i64 r.th, .int .i64 r.ve, .bool r.rd, .bool r.wr, .bool r.wk]) rt_39 rfl rfl (hN105.blk.rangeL 0 5 rfl) rfl ?_
  refine wpo_call (vs := [.agg #[.int .i64 r.th, .int .i64 r.ve, .bool r.rd, .bool r.wr, .bool r.wk]]) gf_23 (args_cons rfl args_nil) rfl (RightOk_c r _) ?_
  rintro _ w107 ⟨rfl, hg108⟩
  have hb109 := low0 hb106 hg108
  refine wpo_not (b' := !rightOk r) rfl rfl rfl ?_
  refine wpo_nil ?_
  refine wpf_cond rfl (fun h110 => ?_) (fun h110 => ?_)
  ·
   have h111 := nt_t h110
   refine wpf_seq_region ?_
   refine wpo_assign (v := .string ⟨([] : List UInt8).toArray⟩) rfl rfl ?_
   refine wpo_nil ?_
   refine wpf_ret ?_
   refine thn_r ?_
   refine ⟨.string ⟨([] : List UInt8).toArray⟩, res1 rfl rfl, ?_, hb109⟩
   exact congrArg (fun z : List UInt8 => Value.string ⟨z.toArray⟩) ((if_neg (by rw [h111]; exact Bool.false_ne_true)).symm)
  ·
   have h112 := nt_f h110
   have hrk113 := right_rng h112
   refine wpf_skip ?_
   refine thn_n ?_
   refine wpf_seq_region ?_
   have k114 := (hN105.blk.grown0 hg108)
   refine wpo_loadn (vs := [.int .i64 r.th, .int .i64 r.ve, .bool r.rd, .bool r.wr, .bool r.wk]) rt_39 rfl rfl (k114.rangeL 0 5 rfl) rfl ?_
   refine wpo_call (vs := [.agg #[.int .i64 r.th, .int .i64 r.ve, .bool r.rd, .bool r.wr, .bool r.wk]]) gf_59 (args_cons rfl args_nil) rfl (capOf_t r h101 _) ?_
   rintro _ w115 ⟨rfl, hg116⟩
   have hb117 := low0 hb109 hg116
   refine wpo_invoke (T := 88) (rv := .agg #[]) (v0 := .agg #[]) (vs := []) gf_93 rfl (fun _ => by kernel_rfl) args_nil rfl (etx_c  _) ?_
   rintro _ w118 ⟨rfl, hg119⟩
   have hb120 := low0 hb117 hg119
   refine wpo_assign (v := .string ⟨([45]).toArray⟩) rfl rfl ?_
   refine wpo_nil ?_
   refine wpf_ret ?_
   refine ⟨.string ⟨([45]).toArray⟩, res1 rfl rfl, ?_, hb120⟩
   exact congrArg (fun z : List UInt8 => Value.string ⟨z.toArray⟩) (((if_pos h112).trans (if_pos (of_decide_eq_true h101))).symm)
 ·
  have h121 := of_decide_eq_false h101
  refine wpf_seq_region ?_
  refine wpo_box (v := .agg #[.int .i64 r.th, .int .i64 r.ve, .bool r.rd, .bool r.wr, .bool r.wk]) (cs := #[.int .i64 r.th, .int .i64 r.ve, .bool r.rd, .bool r.wr, .bool r.wk]) rfl rfl rfl ?_
  intro B122 w123 hN124
  have hlB122 := hN_ge hN124 hb0
  have hb125 := low0 hb0 hN124.grw
  refine wpo_assign (v := .string ⟨([] : List UInt8).toArray⟩) rfl rfl ?_
  refine wpo_nil ?_
  refine wpf_seq ?_
  refine wpf_seq_region ?_
  refine wpo_loadn (vs := [.int .i64 r.th, .int .i64 r.ve, .bool r.rd, .bool r.wr, .bool r.wk]) rt_39 rfl rfl (hN124.blk.rangeL 0 5 rfl) rfl ?_
  refine wpo_call (vs := [.agg #[.int .i64 r.th, .int .i64 r.ve, .bool r.rd, .bool r.wr, .bool r.wk]]) gf_23 (args_cons rfl args_nil) rfl (RightOk_c r _) ?_
  rintro _ w126 ⟨rfl, hg127⟩
  have hb128 := low0 hb125 hg127
  refine wpo_not (b' := !rightOk r) rfl rfl rfl ?_
  refine wpo_nil ?_
  refine wpf_cond rfl (fun h129 => ?_) (fun h129 => ?_)
  ·
   have h130 := nt_t h129
   refine wpf_seq_region ?_
   refine wpo_assign (v := .string ⟨([] : List UInt8).toArray⟩) rfl rfl ?_
   refine wpo_nil ?_
   refine wpf_ret ?_
   refine thn_r ?_
   refine ⟨.string ⟨([] : List UInt8).toArray⟩, res1 rfl rfl, ?_, hb128⟩
   exact congrArg (fun z : List UInt8 => Value.string ⟨z.toArray⟩) ((if_neg (by rw [h130]; exact Bool.false_ne_true)).symm)
  ·
   have h131 := nt_f h129
   have hrk132 := right_rng h131
   refine wpf_skip ?_
   refine thn_n ?_
   refine wpf_seq_region ?_
   have k133 := (hN124.blk.grown0 hg127)
   refine wpo_loadn (vs := [.int .i64 r.th, .int .i64 r.ve, .bool r.rd, .bool r.wr, .bool r.wk]) rt_39 rfl rfl (k133.rangeL 0 5 rfl) rfl ?_
   refine wpo_call (vs := [.agg #[.int .i64 r.th, .int .i64 r.ve, .bool r.rd, .bool r.wr, .bool r.wk]]) gf_59 (args_cons rfl args_nil) rfl (capOf_f r h101 _) ?_
   rintro _ w134 ⟨rfl, hg135⟩
   have hb136 := low0 hb128 hg135
   refine wpo_invoke (T := 90) (rv := .agg #[.int .i64 r.th, .int .i64 r.ve, .bool r.rd, .bool r.wr, .bool r.wk]) (v0 := .agg #[.int .i64 r.th, .int .i64 r.ve, .bool r.rd, .bool r.wr, .bool r.wk]) (vs := []) gf_95 rfl (fun _ => by kernel_rfl) args_nil rfl (otx_c r (right_rng h131) _) ?_
   rintro _ w137 ⟨rfl, hg138⟩
   have hb139 := low0 hb136 hg138
   refine wpo_assign (v := .string ⟨(otx r).toArray⟩) rfl rfl ?_
   refine wpo_nil ?_
   refine wpf_ret ?_
   refine ⟨.string ⟨(otx r).toArray⟩, res1 rfl rfl, ?_, hb139⟩
   exact congrArg (fun z : List UInt8 => Value.string ⟨z.toArray⟩) (((if_pos h131).trans (if_neg (of_decide_eq_false h101))).symm)

theorem line_c (p : Int) (hp : 0 ≤ p ∧ p ≤ 99) (m : MTh) (w : World) (ht : Pow10 w) (hok : thingOk m.t = true) (hs : SlAt w m.sa 5 (m.t.slots.map Rt.cells)) (hq : SlAt w m.qa 1 (m.t.queue.map icell)) (hsl : m.t.slots.length ≤ 9223372036854775806) (hql : m.t.queue.length ≤ 9223372036854775806) : CallsR Tryd.prog 28 #[.int .i64 p, .agg #[.int .i64 m.t.kind, .int .i64 m.t.lab.s, .int .i64 m.t.lab.v, .int .i64 m.t.ve, .int .i64 m.t.num, .slice m.sa m.t.slots.length m.sc, .slice m.qa m.t.queue.length m.qc, .int .i64 m.t.to]] w (fun v w' => v = .string ⟨(ltx p m.t).toArray⟩ ∧ w.grownBy w' none) := by
 refine calls_of_wpf (n := 65) Tryd.func28 rfl Tryd.ntmps28 rfl ?_
 have hb0 := World.grownBy.refl w none
 obtain ⟨hr1, hr2, hr3, hr4, hr5, hr6, hr8⟩ := th_rng hok
 refine wpf_seq_region ?_
 refine wpo_box (v := .agg #[.int .i64 m.t.kind, .int .i64 m.t.lab.s, .int .i64 m.t.lab.v, .int .i64 m.t.ve, .int .i64 m.t.num, .slice m.sa m.t.slots.length m.sc, .slice m.qa m.t.queue.length m.qc, .int .i64 m.t.to]) (cs := #[.int .i64 m.t.kind, .int .i64 m.t.lab.s, .int .i64 m.t.lab.v, .int .i64 m.t.ve, .int .i64 m.t.num, .slice m.sa m.t.slots.length m.sc, .slice m.qa m.t.queue.length m.qc, .int .i64 m.t.to]) rfl rfl rfl ?_
 intro B101 w102 hN103
 have hlB101 := hN_ge hN103 hb0
 have hb104 := low0 hb0 hN103.grw
 refine wpo_assign (v := .string ⟨([] : List UInt8).toArray⟩) rfl rfl ?_
 refine wpo_nil ?_
 refine wpf_seq ?_
 refine wpf_draw (m := 13) (vals := [(10, .int .i64 p), (11, .string ⟨(dec p).toArray⟩), (12, .pointer (some ⟨B101, 0, none⟩)), (13, .int .i64 m.t.kind), (14, .string ⟨(kname m.t.kind).toArray⟩), (15, .pointer (some ⟨B101, 1, none⟩)), (16, .agg #[.int .i64 m.t.lab.s, .int .i64 m.t.lab.v]), (17, .string ⟨(labtx m.t.lab).toArray⟩), (18, .pointer (some ⟨B101, 3, none⟩)), (19, .int .i64 m.t.ve), (20, .string ⟨(dec m.t.ve).toArray⟩), (21, .pointer (some ⟨B101, 4, none⟩)), (22, .int .i64 m.t.num)]) (fun w' => w102.grownBy w' none) mixed_ (by kernel_rfl) (grown_drew _) ?_ ?_
 ·
  refine yll_cons rfl (fun w193 hi194 => ?_) ?_
  ·
   have hb195 := low0 hb104 hi194
   refine wpo_move (v := .int .i64 p) rfl rfl ?_
   exact wpo_nil ⟨rfl, hi194⟩
  refine yll_cons rfl (fun w196 hi197 => ?_) ?_
  ·
   have hb198 := low0 hb104 hi197
   refine wpo_call (vs := [.int .i64 p]) gf_46 (args_cons rfl args_nil) rfl (itoas_c p (by omega) _) ?_
   rintro _ w199 ⟨rfl, hg200⟩
   have hb201 := low0 hb198 hg200
   exact wpo_nil ⟨rfl, (grown_trans hi197 hg200)⟩
  refine yll_cons rfl (fun w202 hi203 => ?_) ?_
  ·
   have hb204 := low0 hb104 hi203
   refine wpo_fieldAddr (o' := 0) fo_31_0 rfl rfl rfl ?_
   exact wpo_nil ⟨rfl, hi203⟩
  refine yll_cons rfl (fun w205 hi206 => ?_) ?_
  ·
   have hb207 := low0 hb104 hi206
   have k208 := (hN103.blk.grown0 hi206)
   refine wpo_load1 (v := .int .i64 m.t.kind) ot_3 rfl (k208.cell rfl) rfl ?_
   exact wpo_nil ⟨rfl, hi206⟩
  refine yll_cons rfl (fun w209 hi210 => ?_) ?_
  ·
   have hb211 := low0 hb104 hi210
   refine wpo_call (vs := [.int .i64 m.t.kind]) gf_47 (args_cons rfl args_nil) rfl (kname_c m.t.kind _) ?_
   rintro _ w212 ⟨rfl, hg213⟩
   have hb214 := low0 hb211 hg213
   exact wpo_nil ⟨rfl, (grown_trans hi210 hg213)⟩
  refine yll_cons rfl (fun w215 hi216 => ?_) ?_
  ·
   have hb217 := low0 hb104 hi216
   refine wpo_fieldAddr (o' := 1) fo_31_1 rfl rfl rfl ?_
   exact wpo_nil ⟨rfl, hi216⟩
  refine yll_cons rfl (fun w218 hi219 => ?_) ?_
  ·
   have hb220 := low0 hb104 hi219
   have k221 := (hN103.blk.grown0 hi219)
   refine wpo_loadn (vs := [.int .i64 m.t.lab.s, .int .i64 m.t.lab.v]) rt_27 rfl rfl (k221.rangeL 1 2 rfl) rfl ?_
   exact wpo_nil ⟨rfl, hi219⟩
  refine yll_cons rfl (fun w222 hi223 => ?_) ?_
  ·
   have hb224 := low0 hb104 hi223
   refine wpo_call (vs := [.agg #[.int .i64 m.t.lab.s, .int .i64 m.t.lab.v]]) gf_48 (args_cons rfl args_nil) rfl (ilabtx_c m.t.lab _) ?_
   rintro _ w225 ⟨rfl, hg226⟩
   have hb227 := low0 hb224 hg226
   exact wpo_nil ⟨rfl, (grown_trans hi223 hg226)⟩
  refine yll_cons rfl (fun w228 hi229 => ?_) ?_
  ·
   have hb230 := low0 hb104 hi229
   refine wpo_fieldAddr (o' := 3) fo_31_2 rfl rfl rfl ?_
   exact wpo_nil ⟨rfl, hi229⟩
  refine yll_cons rfl (fun w231 hi232 => ?_) ?_
  ·
   have hb233 := low0 hb104 hi232
   have k234 := (hN103.blk.grown0 hi232)
   refine wpo_load1 (v := .int .i64 m.t.ve) ot_3 rfl (k234.cell rfl) rfl ?_
   exact wpo_nil ⟨rfl, hi232⟩
  refine yll_cons rfl (fun w235 hi236 => ?_) ?_
  ·
   have hb237 := low0 hb104 hi236
   refine wpo_call (vs := [.int .i64 m.t.ve]) gf_46 (args_cons rfl args_nil) rfl (itoas_c m.t.ve (by omega) _) ?_
   rintro _ w238 ⟨rfl, hg239⟩
   have hb240 := low0 hb237 hg239
   exact wpo_nil ⟨rfl, (grown_trans hi236 hg239)⟩
  refine yll_cons rfl (fun w241 hi242 => ?_) ?_
  ·
   have hb243 := low0 hb104 hi242
   refine wpo_fieldAddr (o' := 4) fo_31_3 rfl rfl rfl ?_
   exact wpo_nil ⟨rfl, hi242⟩
  refine yll_cons rfl (fun w244 hi245 => ?_) ?_
  ·
   have hb246 := low0 hb104 hi245
   have k247 := (hN103.blk.grown0 hi245)
   refine wpo_load1 (v := .int .i64 m.t.num) ot_3 rfl (k247.cell rfl) rfl ?_
   exact wpo_nil ⟨rfl, hi245⟩
  exact yll_nil
 ·
  intro w248 hi249
  have hb250 := low0 hb104 hi249
  refine wpo_call (vs := [.int .i64 m.t.num]) gf_46 (args_cons rfl args_nil) rfl (itoa_c m.t.num (by omega) _ (pow_low ht hb250)) ?_
  rintro _ w251 ⟨rfl, hg252⟩
  have hb253 := low0 hb250 hg252
  refine wpo_buildSlice (ps := [(0, .string ⟨(dec p).toArray⟩), (1, .string ⟨(kname m.t.kind).toArray⟩), (2, .string ⟨(labtx m.t.lab).toArray⟩), (3, .string ⟨(dec m.t.ve).toArray⟩), (4, .string ⟨(dec m.t.num).toArray⟩)]) (e := 9) (cs := (([dec p, kname m.t.kind, labtx m.t.lab, dec m.t.ve, dec m.t.num] : List (List UInt8)).flatMap scell).toArray) (parts_cons rfl (parts_cons rfl (parts_cons rfl (parts_cons rfl (parts_cons rfl parts_nil))))) (fun _ => by kernel_rfl) rfl ?_
  intro B254 w255 hN256
  have hlB254 := hN_ge hN256 hb253
  have k257 := ((hN103.blk.grown0 hi249).grown0 hg252)
  have lt_B101_B254 := hN_gtl hN256 (k257).lt
  have hb258 := low0 hb253 hN256.grw
  refine wpo_assign (v := .slice (some ⟨B254, 0, none⟩) 5 5) rfl rfl ?_
  refine wpo_nil ?_
  refine thn_n ?_
  refine wpf_seq ?_
  refine wpf_seq_region ?_
  refine wpo_fieldAddr (o' := 5) fo_31_4 rfl rfl rfl ?_
  have k259 := (k257.grown0 hN256.grw)
  refine wpo_load1 (v := .slice m.sa m.t.slots.length m.sc) ot_28 rfl (k259.cell rfl) rfl ?_
  refine wpo_len (by kernel_rfl) rfl rfl ?_
  refine wpo_move (v := .int .i64 0) rfl rfl ?_
  refine wpo_nil ?_
  refine wpf_block ?_
  refine wpf_loopN (fun mm f' w' => ∃ (k : Nat) (BA : Nat) (cA : Nat) (ysA : List (List UInt8)), mm = m.t.slots.length - k ∧ k ≤ m.t.slots.length ∧ ysA = lnA p m.t k ∧ ysA.length = 5 + k ∧ Dw.Own w' BA 9 1 cA ysA.length (ysA.flatMap scell) ∧ w.heap.size ≤ BA ∧ B101 ≠ BA ∧ f' 5 = .slice (some ⟨BA, 0, none⟩) ysA.length cA ∧ f' 28 = .int .i64 (k : Int) ∧ f' 3 = .pointer (some ⟨B101, 0, none⟩) ∧ f' 4 = .string ⟨([] : List UInt8).toArray⟩ ∧ f' 26 = .slice m.sa m.t.slots.length m.sc ∧ f' 27 = .int .i64 (m.t.slots.length : Int) ∧ w.grownBy w' none ∧ Blk w' B101 31 #[.int .i64 m.t.kind, .int .i64 m.t.lab.s, .int .i64 m.t.lab.v, .int .i64 m.t.ve, .int .i64 m.t.num, .slice m.sa m.t.slots.length m.sc, .slice m.qa m.t.queue.length m.qc, .int .i64 m.t.to]) (m.t.slots.length - 0) ⟨0, B254, 5, ([dec p, kname m.t.kind, labtx m.t.lab, dec m.t.ve, dec m.t.num] : List (List UInt8)), rfl, (Nat.zero_le _), (lnA_0 _ _), rfl, (Own.rows wide_str hN256.blk (by simp)), hlB254, (by omega), rfl, rfl, rfl, rfl, rfl, rfl, hb258, k259⟩ ?_
  rintro mm f260 w261 ⟨k, BA, cA, ysA, hm263, hk, hyA, hzA, hOA, hlBA, hxBA, e264, e265, e266, e267, e268, e269, hb262, k270⟩
  have hltBA := hOA.lt
  refine wpf_seq_region ?_
  refine wpo_lss (q := decide ((k : Int) < (m.t.slots.length : Int))) e265 e269 rfl rfl ?_
  refine wpo_nil ?_
  refine wpf_seq ?_
  refine wpf_cond rfl (fun h271 => ?_) (fun h271 => ?_)
  ·
   have h272 := of_decide_eq_true h271
   refine wpf_skip ?_
   refine thn_n ?_
   refine wpf_seq ?_
   refine wpf_block ?_
   refine wpf_seq_region ?_
   obtain ⟨x273, hx274⟩ := get_lt (l := m.t.slots) (i := k) (by omega)
   obtain ⟨b275, q276, o277, ha278, ho279, hr280⟩ := SlAt.at hs (map_get hx274)
   refine wpo_indexE es_28 e268 e265 ha278 ho279 (by omega) (by omega) rfl ?_
   refine wpo_loadn (vs := [.int .i64 x273.th, .int .i64 x273.ve, .bool x273.rd, .bool x273.wr, .bool x273.wk]) rt_39 rfl rfl (range_sub (range_low hr280 hb262) 0 5 rfl) rfl ?_
   refine wpo_alloc (cs := #[.int .i64 0, .int .i64 0, .bool false, .bool false, .bool false]) zt_39 rfl rfl ?_
   intro B281 w282 hN283
   have hlB281 := hN_ge hN283 hb262
   have lt_B101_B281 := hN_gtl hN283 (k270).lt
   have lt_BA_B281 := hN_gtl hN283 (hOA).lt
   have hb284 := low0 hb262 hN283.grw
   refine wpo_storen (vs := [.int .i64 x273.th, .int .i64 x273.ve, .bool x273.rd, .bool x273.wr, .bool x273.wk]) (cs' := #[.int .i64 x273.th, .int .i64 x273.ve, .bool x273.rd, .bool x273.wr, .bool x273.wk]) rt_39 rfl rfl rfl (by simp [Value.oneCell']) hN283.blk (Nat.le_of_ble_eq_true rfl) rfl ?_
   intro w285 hS286
   have hb287 := low1 hb284 hS286.grw (by omega)
   refine wpo_nil ?_
   refine wpf_region ?_
   refine wpo_move (v := .slice (some ⟨BA, 0, none⟩) ysA.length cA) e264 rfl ?_
   refine wpo_loadn (vs := [.int .i64 x273.th, .int .i64 x273.ve, .bool x273.rd, .bool x273.wr, .bool x273.wk]) rt_39 rfl rfl (hS286.blk.rangeL 0 5 rfl) rfl ?_
   refine wpo_call (vs := [.agg #[.int .i64 x273.th, .int .i64 x273.ve, .bool x273.rd, .bool x273.wr, .bool x273.wk]]) gf_49 (args_cons rfl args_nil) rfl (irtx_c x273 _) ?_
   rintro _ w288 ⟨rfl, hg289⟩
   have hb290 := low0 hb287 hg289
   refine wpo_buildSlice (ps := [(0, .string ⟨(rtx x273).toArray⟩)]) (e := 9) (cs := (([rtx x273] : List (List UInt8)).flatMap scell).toArray) (parts_cons rfl parts_nil) (fun _ => by kernel_rfl) rfl ?_
   intro B291 w292 hN293
   have hlB291 := hN_ge hN293 hb290
   have k294 := (((k270.grown0 hN283.grw).gn hS286.grw).grown0 hg289)
   have lt_B101_B291 := hN_gtl hN293 (k294).lt
   have k295 := (((hOA.grown0 hN283.grw).gn hS286.grw).grown0 hg289)
   have lt_BA_B291 := hN_gtl hN293 (k295).lt
   have k296 := (hS286.blk.grown0 hg289)
   have lt_B281_B291 := hN_gtl hN293 (k296).lt
   have hb297 := low0 hb290 hN293.grw
   have k298 := (k295.grown0 hN293.grw)
   have k299 := (k294.grown0 hN293.grw)
   have k300 := (k296.grown0 hN293.grw)
   refine wpo_append (g := scell) (ys := ysA) (zs := ([rtx x273] : List (List UInt8))) mk_73 rfl wide_str (by omega) onec_str rfl rfl k298 (rows_sl wide_str hN293.blk) (by simp only [List.length_cons, List.length_nil]; omega) (by omega) rfl ?_
   intro B301 cap302 w303 hO304 hg305 hor306
   have hlB301 : w.heap.size ≤ B301 := by rcases hor306 with h | h; (rw [h]; exact hlBA); (rw [h]; exact hb297.size)
   have ne_B101_B301 : B101 ≠ B301 := by have h := (k299).lt; omega
   have ne_B281_B301 : B281 ≠ B301 := by have h := (k300).lt; omega
   have ne_B291_B301 : B291 ≠ B301 := by have h := (hN293.blk).lt; omega
   have hb307 := low1 hb297 hg305 (by omega)
   refine wpo_assign (v := .slice (some ⟨B301, 0, none⟩) ((ysA ++ ([rtx x273] : List (List UInt8))).length) cap302) rfl rfl ?_
   refine wpo_nil ?_
   refine blk_n ?_
   refine thn_n ?_
   refine wpf_region ?_
   refine wpo_add (c := (k : Int) + 1) e265 rfl (by omega) (by omega) (by omega) rfl ?_
   refine wpo_move (v := .int .i64 ((k : Int) + 1)) rfl rfl ?_
   refine wpo_nil ?_
   refine thn_n ?_
   have k308 := (k299.gn hg305)
   exact ⟨m.t.slots.length - (k + 1), by omega, (k + 1), B301, cap302, (ysA ++ ([rtx x273] : List (List UInt8))), rfl, (by omega), (by rw [hyA]; exact lnA_s hx274), (by rw [List.length_append, hzA]; simp only [List.length_cons, List.length_nil]; omega), hO304, hlB301, (by omega), rfl, rfl, e266, e267, e268, e269, hb307, k308⟩
  ·
   have h309 := of_decide_eq_false h271
   refine wpf_exit ?_
   refine thn_e ?_
   refine thn_e ?_
   refine blk_e ?_
   refine thn_n ?_
   refine wpf_seq ?_
   refine wpf_seq_region ?_
   refine wpo_fieldAddr (o' := 6) fo_31_5 e266 rfl rfl ?_
   refine wpo_load1 (v := .slice m.qa m.t.queue.length m.qc) ot_29 rfl (k270.cell rfl) rfl ?_
   refine wpo_len (by kernel_rfl) rfl rfl ?_
   refine wpo_move (v := .int .i64 0) rfl rfl ?_
   refine wpo_nil ?_
   refine wpf_block ?_
   refine wpf_loopN (fun mm f' w' => ∃ (j : Nat) (BB : Nat) (cB : Nat) (ysB : List (List UInt8)), mm = m.t.queue.length - j ∧ j ≤ m.t.queue.length ∧ ysB = lnB p m.t j ∧ ysB.length = 5 + m.t.slots.length + j ∧ Dw.Own w' BB 9 1 cB ysB.length (ysB.flatMap scell) ∧ w.heap.size ≤ BB ∧ B101 ≠ BB ∧ f' 5 = .slice (some ⟨BB, 0, none⟩) ysB.length cB ∧ f' 41 = .int .i64 (j : Int) ∧ f' 3 = .pointer (some ⟨B101, 0, none⟩) ∧ f' 4 = .string ⟨([] : List UInt8).toArray⟩ ∧ f' 39 = .slice m.qa m.t.queue.length m.qc ∧ f' 40 = .int .i64 (m.t.queue.length : Int) ∧ w.grownBy w' none ∧ Blk w' B101 31 #[.int .i64 m.t.kind, .int .i64 m.t.lab.s, .int .i64 m.t.lab.v, .int .i64 m.t.ve, .int .i64 m.t.num, .slice m.sa m.t.slots.length m.sc, .slice m.qa m.t.queue.length m.qc, .int .i64 m.t.to]) (m.t.queue.length - 0) ⟨0, BA, cA, ysA, rfl, (Nat.zero_le _), (hyA.trans (lnB_0 (by omega) (by omega))), (by omega), hOA, hlBA, (by omega), e264, rfl, e266, e267, rfl, rfl, hb262, k270⟩ ?_
   rintro mm f310 w311 ⟨j, BB, cB, ysB, hm313, hj, hyB, hzB, hOB, hlBB, hxBB, e314, e315, e316, e317, e318, e319, hb312, k320⟩
   have hltBB := hOB.lt
   refine wpf_seq_region ?_
   refine wpo_lss (q := decide ((j : Int) < (m.t.queue.length : Int))) e315 e319 rfl rfl ?_
   refine wpo_nil ?_
   refine wpf_seq ?_
   refine wpf_cond rfl (fun h321 => ?_) (fun h321 => ?_)
   ·
    have h322 := of_decide_eq_true h321
    refine wpf_skip ?_
    refine thn_n ?_
    refine wpf_seq ?_
    refine wpf_block ?_
    refine wpf_seq_region ?_
    obtain ⟨x323, hx324⟩ := get_lt (l := m.t.queue) (i := j) (by omega)
    obtain ⟨b325, q326, o327, ha328, ho329, hr330⟩ := SlAt.at hq (map_get hx324)
    refine wpo_indexE es_29 e318 e315 ha328 ho329 (by omega) (by omega) rfl ?_
    refine wpo_load1 (v := .int .i64 x323) ot_3 rfl ((range_low hr330 hb312) 0 _ rfl) rfl ?_
    refine wpo_assign (v := .int .i64 x323) rfl rfl ?_
    refine wpo_nil ?_
    refine wpf_region ?_
    refine wpo_move (v := .slice (some ⟨BB, 0, none⟩) ysB.length cB) e314 rfl ?_
    refine wpo_move (v := .int .i64 x323) rfl rfl ?_
    refine wpo_call (vs := [.int .i64 x323]) gf_46 (args_cons rfl args_nil) rfl (itoas_c x323 (by have hq8 := hr8 _ (List.mem_of_getElem? hx324); omega) _) ?_
    rintro _ w331 ⟨rfl, hg332⟩
    have hb333 := low0 hb312 hg332
    refine wpo_cat (a := ([60] : List UInt8)) (b := dec x323) rfl rfl (Nat.le_trans (Nat.le_refl _) (by decide)) (Nat.le_trans (dec_len x323) (by decide)) rfl ?_
    refine wpo_buildSlice (ps := [(0, .string ⟨(([60] : List UInt8) ++ (dec x323)).toArray⟩)]) (e := 9) (cs := (([([60] : List UInt8) ++ (dec x323)] : List (List UInt8)).flatMap scell).toArray) (parts_cons rfl parts_nil) (fun _ => by kernel_rfl) rfl ?_
    intro B334 w335 hN336
    have hlB334 := hN_ge hN336 hb333
    have k337 := (k320.grown0 hg332)
    have lt_B101_B334 := hN_gtl hN336 (k337).lt
    have k338 := (hOB.grown0 hg332)
    have lt_BB_B334 := hN_gtl hN336 (k338).lt
    have hb339 := low0 hb333 hN336.grw
    have k340 := (k338.grown0 hN336.grw)
    have k341 := (k337.grown0 hN336.grw)
    refine wpo_append (g := scell) (ys := ysB) (zs := ([([60] : List UInt8) ++ (dec x323)] : List (List UInt8))) mk_73 rfl wide_str (by omega) onec_str rfl rfl k340 (rows_sl wide_str hN336.blk) (by simp only [List.length_cons, List.length_nil]; omega) (by omega) rfl ?_
    intro B342 cap343 w344 hO345 hg346 hor347
    have hlB342 : w.heap.size ≤ B342 := by rcases hor347 with h | h; (rw [h]; exact hlBB); (rw [h]; exact hb339.size)
    have ne_B101_B342 : B101 ≠ B342 := by have h := (k341).lt; omega
    have ne_B334_B342 : B334 ≠ B342 := by have h := (hN336.blk).lt; omega
    have hb348 := low1 hb339 hg346 (by omega)
    refine wpo_assign (v := .slice (some ⟨B342, 0, none⟩) ((ysB ++ ([([60] : List UInt8) ++ (dec x323)] : List (List UInt8))).length) cap343) rfl rfl ?_
    refine wpo_nil ?_
    refine blk_n ?_
    refine thn_n ?_
    refine wpf_region ?_
    refine wpo_add (c := (j : Int) + 1) e315 rfl (by omega) (by omega) (by omega) rfl ?_
    refine wpo_move (v := .int .i64 ((j : Int) + 1)) rfl rfl ?_
    refine wpo_nil ?_
    refine thn_n ?_
    have k349 := (k341.gn hg346)
    exact ⟨m.t.queue.length - (j + 1), by omega, (j + 1), B342, cap343, (ysB ++ ([([60] : List UInt8) ++ (dec x323)] : List (List UInt8))), rfl, (by omega), (by rw [hyB]; exact lnB_s hx324), (by rw [List.length_append, hzB]; simp only [List.length_cons, List.length_nil]; omega), hO345, hlB342, (by omega), rfl, rfl, e316, e317, e318, e319, hb348, k349⟩
   ·
    have h350 := of_decide_eq_false h321
    refine wpf_exit ?_
    refine thn_e ?_
    refine thn_e ?_
    refine blk_e ?_
    refine thn_n ?_
    refine wpf_seq ?_
    refine wpf_seq_region ?_
    refine wpo_fieldAddr (o' := 0) fo_31_0 e316 rfl rfl ?_
    refine wpo_load1 (v := .int .i64 m.t.kind) ot_3 rfl (k320.cell rfl) rfl ?_
    refine wpo_eql (q := decide (m.t.kind = 5)) rfl rfl rfl rfl ?_
    refine wpo_nil ?_
    refine wpf_cond rfl (fun h351 => ?_) (fun h351 => ?_)
    ·
     have h352 := of_decide_eq_true h351
     refine wpf_region ?_
     refine wpo_move (v := .slice (some ⟨BB, 0, none⟩) ysB.length cB) e314 rfl ?_
     refine wpo_fieldAddr (o' := 7) fo_31_6 e316 rfl rfl ?_
     refine wpo_load1 (v := .int .i64 m.t.to) ot_3 rfl (k320.cell rfl) rfl ?_
     refine wpo_call (vs := [.int .i64 m.t.to]) gf_46 (args_cons rfl args_nil) rfl (itoas_c m.t.to (by omega) _) ?_
     rintro _ w353 ⟨rfl, hg354⟩
     have hb355 := low0 hb312 hg354
     refine wpo_cat (a := ([62] : List UInt8)) (b := dec m.t.to) rfl rfl (Nat.le_trans (Nat.le_refl _) (by decide)) (Nat.le_trans (dec_len m.t.to) (by decide)) rfl ?_
     refine wpo_buildSlice (ps := [(0, .string ⟨(([62] : List UInt8) ++ (dec m.t.to)).toArray⟩)]) (e := 9) (cs := (([([62] : List UInt8) ++ (dec m.t.to)] : List (List UInt8)).flatMap scell).toArray) (parts_cons rfl parts_nil) (fun _ => by kernel_rfl) rfl ?_
     intro B356 w357 hN358
     have hlB356 := hN_ge hN358 hb355
     have k359 := (k320.grown0 hg354)
     have lt_B101_B356 := hN_gtl hN358 (k359).lt
     have k360 := (hOB.grown0 hg354)
     have lt_BB_B356 := hN_gtl hN358 (k360).lt
     have hb361 := low0 hb355 hN358.grw
     have k362 := (k360.grown0 hN358.grw)
     have k363 := (k359.grown0 hN358.grw)
     refine wpo_append (g := scell) (ys := ysB) (zs := ([([62] : List UInt8) ++ (dec m.t.to)] : List (List UInt8))) mk_73 rfl wide_str (by omega) onec_str rfl rfl k362 (rows_sl wide_str hN358.blk) (by simp only [List.length_cons, List.length_nil]; omega) (by omega) rfl ?_
     intro B364 cap365 w366 hO367 hg368 hor369
     have hlB364 : w.heap.size ≤ B364 := by rcases hor369 with h | h; (rw [h]; exact hlBB); (rw [h]; exact hb361.size)
     have ne_B101_B364 : B101 ≠ B364 := by have h := (k363).lt; omega
     have ne_B356_B364 : B356 ≠ B364 := by have h := (hN358.blk).lt; omega
     have hb370 := low1 hb361 hg368 (by omega)
     refine wpo_assign (v := .slice (some ⟨B364, 0, none⟩) ((ysB ++ ([([62] : List UInt8) ++ (dec m.t.to)] : List (List UInt8))).length) cap365) rfl rfl ?_
     refine wpo_nil ?_
     refine thn_n ?_
     refine wpf_seq_region ?_
     refine wpo_move (v := .slice (some ⟨B364, 0, none⟩) ((ysB ++ ([([62] : List UInt8) ++ (dec m.t.to)] : List (List UInt8))).length) cap365) rfl rfl ?_
     have hL371 : ysB ++ ([([62] : List UInt8) ++ (dec m.t.to)] : List (List UInt8)) = lnC p m.t := by rw [hyB]; exact lnC_y (by omega) (by omega) (of_decide_eq_true h351)
     have hL371l : (Lib.join (ysB ++ ([([62] : List UInt8) ++ (dec m.t.to)] : List (List UInt8))) [32]).length ≤ 94 := by rw [hL371]; exact line_len hok p
     refine wpo_call (vs := [.slice (some ⟨B364, 0, none⟩) ((ysB ++ ([([62] : List UInt8) ++ (dec m.t.to)] : List (List UInt8))).length) cap365, .string ⟨([32] : List UInt8).toArray⟩]) gf_50 (args_cons rfl (args_cons rfl args_nil)) rfl (join_c B364 _ (ysB ++ ([([62] : List UInt8) ++ (dec m.t.to)] : List (List UInt8))) _ hO367 hL371l (by first | omega | exact Nat.le_of_ble_eq_true rfl | (simp only [List.length_nil, List.length_cons, List.length_append, List.length_replicate]; omega))) ?_
     rintro _ w372 ⟨rfl, hg373⟩
     have hb374 := low0 hb370 hg373
     refine wpo_cat (a := (Lib.join (ysB ++ ([([62] : List UInt8) ++ (dec m.t.to)] : List (List UInt8))) [32])) (b := ([10] : List UInt8)) rfl rfl (Nat.le_trans hL371l (by decide)) (Nat.le_trans (Nat.le_refl _) (by decide)) rfl ?_
     refine wpo_assign (v := .string ⟨((Lib.join (ysB ++ ([([62] : List UInt8) ++ (dec m.t.to)] : List (List UInt8))) [32]) ++ ([10] : List UInt8)).toArray⟩) rfl rfl ?_
     refine wpo_nil ?_
     refine wpf_ret ?_
     refine ⟨.string ⟨((Lib.join (ysB ++ ([([62] : List UInt8) ++ (dec m.t.to)] : List (List UInt8))) [32]) ++ ([10] : List UInt8)).toArray⟩, res1 rfl rfl, ?_, hb374⟩
     exact congrArg (fun z : List UInt8 => Value.string ⟨z.toArray⟩) ((by rw [hL371]; exact line_eq p m.t))
    ·
     have h375 := of_decide_eq_false h351
     refine wpf_skip ?_
     refine thn_n ?_
     refine wpf_seq_region ?_
     refine wpo_move (v := .slice (some ⟨BB, 0, none⟩) ysB.length cB) e314 rfl ?_
     have hL376 : ysB = lnC p m.t := by rw [hyB]; exact lnC_n (by omega) (by omega) (of_decide_eq_false h351)
     have hL376l : (Lib.join (ysB) [32]).length ≤ 94 := by rw [hL376]; exact line_len hok p
     refine wpo_call (vs := [.slice (some ⟨BB, 0, none⟩) ysB.length cB, .string ⟨([32] : List UInt8).toArray⟩]) gf_50 (args_cons rfl (args_cons rfl args_nil)) rfl (join_c BB _ ysB _ hOB hL376l (by first | omega | exact Nat.le_of_ble_eq_true rfl | (simp only [List.length_nil, List.length_cons, List.length_append, List.length_replicate]; omega))) ?_
     rintro _ w377 ⟨rfl, hg378⟩
     have hb379 := low0 hb312 hg378
     refine wpo_cat (a := Lib.join (ysB) [32]) (b := ([10] : List UInt8)) rfl rfl (Nat.le_trans hL376l (by decide)) (Nat.le_trans (Nat.le_refl _) (by decide)) rfl ?_
     refine wpo_assign (v := .string ⟨((Lib.join (ysB) [32]) ++ ([10] : List UInt8)).toArray⟩) rfl rfl ?_
     refine wpo_nil ?_
     refine wpf_ret ?_
     refine ⟨.string ⟨((Lib.join (ysB) [32]) ++ ([10] : List UInt8)).toArray⟩, res1 rfl rfl, ?_, hb379⟩
     exact congrArg (fun z : List UInt8 => Value.string ⟨z.toArray⟩) ((by rw [hL376]; exact line_eq p m.t))

end Go.Proofs.YtemimomfjapgiaaDoor
