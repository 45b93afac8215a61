/- Walks, printed by a program of mine (gen.py) out of the functions. -/
import Derived.Test.YtlkmdoebmklbbaaT
namespace Go.Proofs.Ytlkmdoebmklbbaa
open Go.RowKit Go.Dw
set_option maxRecDepth 100000
set_option linter.unusedSimpArgs false
set_option linter.unusedVariables false
theorem gf_23 : goFn Try.prog 23 = true := by kernel_rfl
theorem gf_24 : goFn Try.prog 24 = true := by kernel_rfl
theorem gf_27 : goFn Try.prog 27 = true := by kernel_rfl
theorem gf_28 : goFn Try.prog 28 = true := by kernel_rfl
theorem gf_29 : goFn Try.prog 29 = true := by kernel_rfl
theorem gf_30 : goFn Try.prog 30 = true := by kernel_rfl
theorem rt_50 : rowTy Try.prog 50 = some 2 := by kernel_rfl
theorem law_FnExactThingNew (k to : Int) (l : Lab) (w : World) : CallsR Try.prog 6 #[.int .i64 k, .agg #[.int .i64 l.s, .int .i64 l.v], .int .i64 to] w (fun v w' => v = .bool true ∧ w.grownBy w' none) := by
 refine calls_of_wpf (n := 76) Try.func6 rfl Try.ntmps6 rfl ?_
 have hb0 := World.grownBy.refl w none
 rcases bcases ((decide (k = 2)) || (decide (k = 3))) with h4742 | h4742
 ·
  rcases bcases (newOk k l to) with h4743 | h4743
  ·
   refine wpf_seq_region ?_
   refine wpo_box (v := .agg #[.int .i64 l.s, .int .i64 l.v]) (cs := #[.int .i64 l.s, .int .i64 l.v]) rfl rfl rfl ?_
   intro B4744 w4745 hN4746
   have hlB4744 := hN_ge hN4746 hb0
   have hb4747 := low0 hb0 hN4746.grw
   refine wpo_assign (v := .bool false) rfl rfl ?_
   refine wpo_nil ?_
   refine wpf_seq_region ?_
   refine wpo_move (v := .int .i64 k) rfl rfl ?_
   refine wpo_loadn (vs := [.int .i64 l.s, .int .i64 l.v]) rt_50 rfl rfl (hN4746.blk.rangeL 0 2 rfl) rfl ?_
   refine wpo_call (vs := [.agg #[.int .i64 l.s, .int .i64 l.v]]) gf_27 (args_cons rfl args_nil) rfl (toLabel_c l _) ?_
   rintro _ w4748 ⟨rfl, hg4749⟩
   have hb4750 := low0 hb4747 hg4749
   refine wpo_move (v := .int .i64 to) rfl rfl ?_
   have k4751 := (hN4746.blk.grown0 hg4749)
   refine wpo_call (vs := [.int .i64 k, .agg #[.int .i64 l.s, .int .i64 l.v], .int .i64 to]) gf_23 (args_cons rfl (args_cons rfl (args_cons rfl args_nil))) rfl (sThingNew_yt k to l h4742 h4743 _) ?_
   rintro _ w4752 ⟨B4754, cap4755, B4758, cap4759, rfl, hge4756, hO4757, hge4760, hO4761, ne_B4754_B4758, hg4753⟩
   have hb4762 := low0 hb4750 hg4753
   have hlB4754 := Nat.le_trans hb4750.size hge4756
   have lt_B4744_B4754 := Nat.lt_of_lt_of_le (k4751).lt hge4756
   have hlB4758 := Nat.le_trans hb4750.size hge4760
   have lt_B4744_B4758 := Nat.lt_of_lt_of_le (k4751).lt hge4760
   refine wpo_move (v := .tuple #[.agg #[.int .i64 k, .int .i64 l.s, .int .i64 l.v, .int .i64 0, .int .i64 0, .slice (some ⟨B4754, 0, none⟩) 4 cap4755, .slice (some ⟨B4758, 0, none⟩) 0 cap4759, .int .i64 to], .bool true]) rfl rfl ?_
   refine wpo_extract (v := .agg #[.int .i64 k, .int .i64 l.s, .int .i64 l.v, .int .i64 0, .int .i64 0, .slice (some ⟨B4754, 0, none⟩) 4 cap4755, .slice (some ⟨B4758, 0, none⟩) 0 cap4759, .int .i64 to]) rfl rfl rfl ?_
   refine wpo_extract (v := .bool true) rfl rfl rfl ?_
   refine wpo_alloc (cs := #[.int .i64 0, .int .i64 0, .int .i64 0, .int .i64 0, .int .i64 0, .slice none 0 0, .slice none 0 0, .int .i64 0]) zt_45 rfl rfl ?_
   intro B4763 w4764 hN4765
   have hlB4763 := hN_ge hN4765 hb4762
   have k4766 := (k4751.grown0 hg4753)
   have lt_B4744_B4763 := hN_gtl hN4765 (k4766).lt
   have lt_B4758_B4763 := hN_gtl hN4765 (hO4761).lt
   have lt_B4754_B4763 := hN_gtl hN4765 (hO4757).lt
   have hb4767 := low0 hb4762 hN4765.grw
   refine wpo_storen (vs := [.int .i64 k, .int .i64 l.s, .int .i64 l.v, .int .i64 0, .int .i64 0, .slice (some ⟨B4754, 0, none⟩) 4 cap4755, .slice (some ⟨B4758, 0, none⟩) 0 cap4759, .int .i64 to]) (cs' := #[.int .i64 k, .int .i64 l.s, .int .i64 l.v, .int .i64 0, .int .i64 0, .slice (some ⟨B4754, 0, none⟩) 4 cap4755, .slice (some ⟨B4758, 0, none⟩) 0 cap4759, .int .i64 to]) rt_45 rfl rfl rfl (by simp [Value.oneCell']) hN4765.blk (Nat.le_of_ble_eq_true rfl) rfl ?_
   intro w4768 hS4769
   have hb4770 := low1 hb4767 hS4769.grw (by omega)
   refine wpo_assign (v := .bool true) rfl rfl ?_
   refine wpo_nil ?_
   refine wpf_seq_region ?_
   refine wpo_move (v := .int .i64 k) rfl rfl ?_
   have k4771 := ((k4766.grown0 hN4765.grw).grown hS4769.grw (some_ne (by omega)))
   refine wpo_loadn (vs := [.int .i64 l.s, .int .i64 l.v]) rt_50 rfl rfl (k4771.rangeL 0 2 rfl) rfl ?_
   refine wpo_call (vs := [.agg #[.int .i64 l.s, .int .i64 l.v]]) gf_27 (args_cons rfl args_nil) rfl (toLabel_c l _) ?_
   rintro _ w4772 ⟨rfl, hg4773⟩
   have hb4774 := low0 hb4770 hg4773
   refine wpo_move (v := .int .i64 to) rfl rfl ?_
   have k4775 := (k4771.grown0 hg4773)
   have k4776 := (((hO4761.grown0 hN4765.grw).grown hS4769.grw (some_ne (by omega))).grown0 hg4773)
   have k4777 := (((hO4757.grown0 hN4765.grw).grown hS4769.grw (some_ne (by omega))).grown0 hg4773)
   have k4778 := (hS4769.blk.grown0 hg4773)
   refine wpo_call (vs := [.int .i64 k, .agg #[.int .i64 l.s, .int .i64 l.v], .int .i64 to]) gf_24 (args_cons rfl (args_cons rfl (args_cons rfl args_nil))) rfl (ThingNew_yt k to l h4742 h4743 _) ?_
   rintro _ w4779 ⟨B4781, cap4782, rfl, hge4783, hO4784, hg4780⟩
   have hb4785 := low0 hb4774 hg4780
   have hlB4781 := Nat.le_trans hb4774.size hge4783
   have lt_B4744_B4781 := Nat.lt_of_lt_of_le (k4775).lt hge4783
   have lt_B4758_B4781 := Nat.lt_of_lt_of_le (k4776).lt hge4783
   have lt_B4754_B4781 := Nat.lt_of_lt_of_le (k4777).lt hge4783
   have lt_B4763_B4781 := Nat.lt_of_lt_of_le (k4778).lt hge4783
   refine wpo_move (v := .tuple #[.agg #[.int .i64 k, .int .i64 l.s, .int .i64 l.v, .int .i64 0, .int .i64 0, .slice (some ⟨B4781, 0, none⟩) 4 cap4782, .slice none 0 0, .int .i64 to], .bool true]) rfl rfl ?_
   refine wpo_extract (v := .agg #[.int .i64 k, .int .i64 l.s, .int .i64 l.v, .int .i64 0, .int .i64 0, .slice (some ⟨B4781, 0, none⟩) 4 cap4782, .slice none 0 0, .int .i64 to]) rfl rfl rfl ?_
   refine wpo_extract (v := .bool true) rfl rfl rfl ?_
   refine wpo_alloc (cs := #[.int .i64 0, .int .i64 0, .int .i64 0, .int .i64 0, .int .i64 0, .slice none 0 0, .slice none 0 0, .int .i64 0]) zt_45 rfl rfl ?_
   intro B4786 w4787 hN4788
   have hlB4786 := hN_ge hN4788 hb4785
   have k4789 := (k4775.grown0 hg4780)
   have lt_B4744_B4786 := hN_gtl hN4788 (k4789).lt
   have k4790 := (k4776.grown0 hg4780)
   have lt_B4758_B4786 := hN_gtl hN4788 (k4790).lt
   have k4791 := (k4777.grown0 hg4780)
   have lt_B4754_B4786 := hN_gtl hN4788 (k4791).lt
   have k4792 := (k4778.grown0 hg4780)
   have lt_B4763_B4786 := hN_gtl hN4788 (k4792).lt
   have lt_B4781_B4786 := hN_gtl hN4788 (hO4784).lt
   have hb4793 := low0 hb4785 hN4788.grw
   refine wpo_storen (vs := [.int .i64 k, .int .i64 l.s, .int .i64 l.v, .int .i64 0, .int .i64 0, .slice (some ⟨B4781, 0, none⟩) 4 cap4782, .slice none 0 0, .int .i64 to]) (cs' := #[.int .i64 k, .int .i64 l.s, .int .i64 l.v, .int .i64 0, .int .i64 0, .slice (some ⟨B4781, 0, none⟩) 4 cap4782, .slice none 0 0, .int .i64 to]) rt_45 rfl rfl rfl (by simp [Value.oneCell']) hN4788.blk (Nat.le_of_ble_eq_true rfl) rfl ?_
   intro w4794 hS4795
   have hb4796 := low1 hb4793 hS4795.grw (by omega)
   refine wpo_assign (v := .bool true) rfl rfl ?_
   refine wpo_nil ?_
   refine wpf_seq ?_
   refine wpf_seq_region ?_
   refine wpo_loadn (vs := [.int .i64 k, .int .i64 l.s, .int .i64 l.v, .int .i64 0, .int .i64 0, .slice (some ⟨B4781, 0, none⟩) 4 cap4782, .slice none 0 0, .int .i64 to]) rt_45 rfl rfl (hS4795.blk.rangeL 0 8 rfl) rfl ?_
   have k4804 := ((k4792.grown0 hN4788.grw).grown hS4795.grw (some_ne (by omega)))
   refine wpo_loadn (vs := [.int .i64 k, .int .i64 l.s, .int .i64 l.v, .int .i64 0, .int .i64 0, .slice (some ⟨B4754, 0, none⟩) 4 cap4755, .slice (some ⟨B4758, 0, none⟩) 0 cap4759, .int .i64 to]) rt_45 rfl rfl (k4804.rangeL 0 8 rfl) rfl ?_
   have k4805 := ((hO4784.grown0 hN4788.grw).grown hS4795.grw (some_ne (by omega)))
   have k4806 := ((k4791.grown0 hN4788.grw).grown hS4795.grw (some_ne (by omega)))
   have k4807 := ((k4790.grown0 hN4788.grw).grown hS4795.grw (some_ne (by omega)))
   refine wpo_call (vs := [.agg #[.int .i64 k, .int .i64 l.s, .int .i64 l.v, .int .i64 0, .int .i64 0, .slice (some ⟨B4781, 0, none⟩) 4 cap4782, .slice none 0 0, .int .i64 to], .agg #[.int .i64 k, .int .i64 l.s, .int .i64 l.v, .int .i64 0, .int .i64 0, .slice (some ⟨B4754, 0, none⟩) 4 cap4755, .slice (some ⟨B4758, 0, none⟩) 0 cap4759, .int .i64 to]]) gf_28 (args_cons rfl (args_cons rfl args_nil)) rfl (eqThing_c (⟨⟨k, l, 0, 0, zeros4, [], to⟩, some ⟨B4781, 0, none⟩, cap4782, none, 0⟩ : MTh) (⟨⟨k, l, 0, 0, zeros4, [], to⟩, some ⟨B4754, 0, none⟩, cap4755, some ⟨B4758, 0, none⟩, cap4759⟩ : MTh) _ ⟨(Own.sl wide_rt k4805), SlAt.nil, (fun h => by cases h), (fun _ => rfl)⟩ ⟨(Own.sl wide_rt k4806), (Own.sl wide_int k4807), (fun h => by cases h), (fun h => by cases h)⟩ ⟨by first | omega | exact Nat.le_of_ble_eq_true rfl | (simp only [List.length_nil, List.length_cons, List.length_append, List.length_replicate]; omega), by first | omega | exact Nat.le_of_ble_eq_true rfl | (simp only [List.length_nil, List.length_cons, List.length_append, List.length_replicate]; omega)⟩ ⟨by first | omega | exact Nat.le_of_ble_eq_true rfl | (simp only [List.length_nil, List.length_cons, List.length_append, List.length_replicate]; omega), by first | omega | exact Nat.le_of_ble_eq_true rfl | (simp only [List.length_nil, List.length_cons, List.length_append, List.length_replicate]; omega)⟩) ?_
   rintro _ w4808 ⟨rfl, hg4809⟩
   have hb4810 := low0 hb4796 hg4809
   refine wpo_not (b' := false) (congrArg Value.bool (decide_eq_true rfl)) rfl rfl ?_
   refine wpo_move (v := .bool false) rfl rfl ?_
   refine wpo_run rfl rfl rfl rfl ?_
   refine wpo_move (v := .bool true) rfl rfl ?_
   refine wpo_run rfl rfl rfl rfl ?_
   refine wpo_move (v := .bool true) rfl rfl ?_
   refine wpo_run rfl rfl rfl rfl ?_
   refine wpo_neqb (q := false) (by kernel_rfl) rfl rfl (by simp) rfl ?_
   refine wpo_pickf (v := .bool false) rfl rfl rfl rfl ?_
   refine wpo_nil ?_
   refine wpf_condf rfl rfl ?_
   refine wpf_skip ?_
   refine thn_n ?_
   refine wpf_seq_region ?_
   refine wpo_assign (v := .int .i64 1) rfl rfl ?_
   refine wpo_nil ?_
   refine wpf_seq_region ?_
   have k4811 := (hS4795.blk.grown0 hg4809)
   refine wpo_loadn (vs := [.int .i64 k, .int .i64 l.s, .int .i64 l.v, .int .i64 0, .int .i64 0, .slice (some ⟨B4781, 0, none⟩) 4 cap4782, .slice none 0 0, .int .i64 to]) rt_45 rfl rfl (k4811.rangeL 0 8 rfl) rfl ?_
   refine wpo_move (v := .int .i64 1) rfl rfl ?_
   have k4814 := (k4805.grown0 hg4809)
   refine wpo_call (vs := [.agg #[.int .i64 k, .int .i64 l.s, .int .i64 l.v, .int .i64 0, .int .i64 0, .slice (some ⟨B4781, 0, none⟩) 4 cap4782, .slice none 0 0, .int .i64 to], .int .i64 1]) gf_29 (args_cons rfl (args_cons rfl args_nil)) rfl (markThing_y k 0 0 to l B4781 cap4782 _ k4814) ?_
   rintro _ w4812 ⟨rfl, hO4815, hg4813⟩
   have hb4816 := low1 hb4810 hg4813 (by omega)
   refine wpo_assign (v := .int .i64 21) rfl rfl ?_
   refine wpo_nil ?_
   refine wpf_seq_region ?_
   refine wpo_assign (v := .int .i64 1) rfl rfl ?_
   refine wpo_nil ?_
   refine wpf_seq_region ?_
   have k4817 := (k4811.grown hg4813 (some_ne (by omega)))
   refine wpo_loadn (vs := [.int .i64 k, .int .i64 l.s, .int .i64 l.v, .int .i64 0, .int .i64 0, .slice (some ⟨B4781, 0, none⟩) 4 cap4782, .slice none 0 0, .int .i64 to]) rt_45 rfl rfl (k4817.rangeL 0 8 rfl) rfl ?_
   refine wpo_move (v := .int .i64 1) rfl rfl ?_
   refine wpo_call (vs := [.agg #[.int .i64 k, .int .i64 l.s, .int .i64 l.v, .int .i64 0, .int .i64 0, .slice (some ⟨B4781, 0, none⟩) 4 cap4782, .slice none 0 0, .int .i64 to], .int .i64 1]) gf_30 (args_cons rfl (args_cons rfl args_nil)) rfl (heldThing_y k 0 0 to l B4781 cap4782 _ hO4815) ?_
   rintro _ w4818 ⟨rfl, hg4819⟩
   have hb4820 := low0 hb4816 hg4819
   refine wpo_assign (v := .int .i64 21) rfl rfl ?_
   refine wpo_nil ?_
   refine wpf_seq ?_
   refine wpf_seq_region ?_
   refine wpo_move (v := .int .i64 21) rfl rfl ?_
   refine wpo_lss (q := false) rfl rfl (by decide) rfl ?_
   refine wpo_nil ?_
   refine wpf_condf rfl rfl ?_
   refine wpf_skip ?_
   refine thn_n ?_
   refine wpf_seq ?_
   refine wpf_seq_region ?_
   refine wpo_move (v := .int .i64 21) rfl rfl ?_
   refine wpo_move (v := .int .i64 21) rfl rfl ?_
   refine wpo_neq (q := false) rfl rfl (by decide) rfl ?_
   refine wpo_nil ?_
   refine wpf_condf rfl rfl ?_
   refine wpf_skip ?_
   refine thn_n ?_
   refine wpf_seq_region ?_
   refine wpo_move (v := .int .i64 k) rfl rfl ?_
   have k4821 := (((((k4789.grown0 hN4788.grw).grown hS4795.grw (some_ne (by omega))).grown0 hg4809).grown hg4813 (some_ne (by omega))).grown0 hg4819)
   refine wpo_loadn (vs := [.int .i64 l.s, .int .i64 l.v]) rt_50 rfl rfl (k4821.rangeL 0 2 rfl) rfl ?_
   refine wpo_call (vs := [.agg #[.int .i64 l.s, .int .i64 l.v]]) gf_27 (args_cons rfl args_nil) rfl (toLabel_c l _) ?_
   rintro _ w4822 ⟨rfl, hg4823⟩
   have hb4824 := low0 hb4820 hg4823
   refine wpo_move (v := .int .i64 to) rfl rfl ?_
   have k4825 := (k4821.grown0 hg4823)
   have k4826 := ((((k4807.grown0 hg4809).grown hg4813 (some_ne (by omega))).grown0 hg4819).grown0 hg4823)
   have k4827 := ((((k4806.grown0 hg4809).grown hg4813 (some_ne (by omega))).grown0 hg4819).grown0 hg4823)
   have k4828 := ((((k4804.grown0 hg4809).grown hg4813 (some_ne (by omega))).grown0 hg4819).grown0 hg4823)
   have k4829 := ((hO4815.grown0 hg4819).grown0 hg4823)
   have k4830 := ((k4817.grown0 hg4819).grown0 hg4823)
   refine wpo_call (vs := [.int .i64 k, .agg #[.int .i64 l.s, .int .i64 l.v], .int .i64 to]) gf_24 (args_cons rfl (args_cons rfl (args_cons rfl args_nil))) rfl (ThingNew_yt k to l h4742 h4743 _) ?_
   rintro _ w4831 ⟨B4833, cap4834, rfl, hge4835, hO4836, hg4832⟩
   have hb4837 := low0 hb4824 hg4832
   have hlB4833 := Nat.le_trans hb4824.size hge4835
   have lt_B4744_B4833 := Nat.lt_of_lt_of_le (k4825).lt hge4835
   have lt_B4758_B4833 := Nat.lt_of_lt_of_le (k4826).lt hge4835
   have lt_B4754_B4833 := Nat.lt_of_lt_of_le (k4827).lt hge4835
   have lt_B4763_B4833 := Nat.lt_of_lt_of_le (k4828).lt hge4835
   have lt_B4781_B4833 := Nat.lt_of_lt_of_le (k4829).lt hge4835
   have lt_B4786_B4833 := Nat.lt_of_lt_of_le (k4830).lt hge4835
   refine wpo_move (v := .tuple #[.agg #[.int .i64 k, .int .i64 l.s, .int .i64 l.v, .int .i64 0, .int .i64 0, .slice (some ⟨B4833, 0, none⟩) 4 cap4834, .slice none 0 0, .int .i64 to], .bool true]) rfl rfl ?_
   refine wpo_extract (v := .agg #[.int .i64 k, .int .i64 l.s, .int .i64 l.v, .int .i64 0, .int .i64 0, .slice (some ⟨B4833, 0, none⟩) 4 cap4834, .slice none 0 0, .int .i64 to]) rfl rfl rfl ?_
   refine wpo_extract (v := .bool true) rfl rfl rfl ?_
   refine wpo_alloc (cs := #[.int .i64 0, .int .i64 0, .int .i64 0, .int .i64 0, .int .i64 0, .slice none 0 0, .slice none 0 0, .int .i64 0]) zt_45 rfl rfl ?_
   intro B4838 w4839 hN4840
   have hlB4838 := hN_ge hN4840 hb4837
   have k4841 := (k4825.grown0 hg4832)
   have lt_B4744_B4838 := hN_gtl hN4840 (k4841).lt
   have k4842 := (k4826.grown0 hg4832)
   have lt_B4758_B4838 := hN_gtl hN4840 (k4842).lt
   have k4843 := (k4827.grown0 hg4832)
   have lt_B4754_B4838 := hN_gtl hN4840 (k4843).lt
   have k4844 := (k4828.grown0 hg4832)
   have lt_B4763_B4838 := hN_gtl hN4840 (k4844).lt
   have k4845 := (k4829.grown0 hg4832)
   have lt_B4781_B4838 := hN_gtl hN4840 (k4845).lt
   have k4846 := (k4830.grown0 hg4832)
   have lt_B4786_B4838 := hN_gtl hN4840 (k4846).lt
   have lt_B4833_B4838 := hN_gtl hN4840 (hO4836).lt
   have hb4847 := low0 hb4837 hN4840.grw
   refine wpo_storen (vs := [.int .i64 k, .int .i64 l.s, .int .i64 l.v, .int .i64 0, .int .i64 0, .slice (some ⟨B4833, 0, none⟩) 4 cap4834, .slice none 0 0, .int .i64 to]) (cs' := #[.int .i64 k, .int .i64 l.s, .int .i64 l.v, .int .i64 0, .int .i64 0, .slice (some ⟨B4833, 0, none⟩) 4 cap4834, .slice none 0 0, .int .i64 to]) rt_45 rfl rfl rfl (by simp [Value.oneCell']) hN4840.blk (Nat.le_of_ble_eq_true rfl) rfl ?_
   intro w4848 hS4849
   have hb4850 := low1 hb4847 hS4849.grw (by omega)
   refine wpo_assign (v := .bool true) rfl rfl ?_
   refine wpo_nil ?_
   refine wpf_seq ?_
   refine wpf_seq_region ?_
   refine wpo_loadn (vs := [.int .i64 k, .int .i64 l.s, .int .i64 l.v, .int .i64 0, .int .i64 0, .slice (some ⟨B4833, 0, none⟩) 4 cap4834, .slice none 0 0, .int .i64 to]) rt_45 rfl rfl (hS4849.blk.rangeL 0 8 rfl) rfl ?_
   have k4858 := ((k4844.grown0 hN4840.grw).grown hS4849.grw (some_ne (by omega)))
   refine wpo_loadn (vs := [.int .i64 k, .int .i64 l.s, .int .i64 l.v, .int .i64 0, .int .i64 0, .slice (some ⟨B4754, 0, none⟩) 4 cap4755, .slice (some ⟨B4758, 0, none⟩) 0 cap4759, .int .i64 to]) rt_45 rfl rfl (k4858.rangeL 0 8 rfl) rfl ?_
   have k4859 := ((hO4836.grown0 hN4840.grw).grown hS4849.grw (some_ne (by omega)))
   have k4860 := ((k4843.grown0 hN4840.grw).grown hS4849.grw (some_ne (by omega)))
   have k4861 := ((k4842.grown0 hN4840.grw).grown hS4849.grw (some_ne (by omega)))
   refine wpo_call (vs := [.agg #[.int .i64 k, .int .i64 l.s, .int .i64 l.v, .int .i64 0, .int .i64 0, .slice (some ⟨B4833, 0, none⟩) 4 cap4834, .slice none 0 0, .int .i64 to], .agg #[.int .i64 k, .int .i64 l.s, .int .i64 l.v, .int .i64 0, .int .i64 0, .slice (some ⟨B4754, 0, none⟩) 4 cap4755, .slice (some ⟨B4758, 0, none⟩) 0 cap4759, .int .i64 to]]) gf_28 (args_cons rfl (args_cons rfl args_nil)) rfl (eqThing_c (⟨⟨k, l, 0, 0, zeros4, [], to⟩, some ⟨B4833, 0, none⟩, cap4834, none, 0⟩ : MTh) (⟨⟨k, l, 0, 0, zeros4, [], to⟩, some ⟨B4754, 0, none⟩, cap4755, some ⟨B4758, 0, none⟩, cap4759⟩ : MTh) _ ⟨(Own.sl wide_rt k4859), SlAt.nil, (fun h => by cases h), (fun _ => rfl)⟩ ⟨(Own.sl wide_rt k4860), (Own.sl wide_int k4861), (fun h => by cases h), (fun h => by cases h)⟩ ⟨by first | omega | exact Nat.le_of_ble_eq_true rfl | (simp only [List.length_nil, List.length_cons, List.length_append, List.length_replicate]; omega), by first | omega | exact Nat.le_of_ble_eq_true rfl | (simp only [List.length_nil, List.length_cons, List.length_append, List.length_replicate]; omega)⟩ ⟨by first | omega | exact Nat.le_of_ble_eq_true rfl | (simp only [List.length_nil, List.length_cons, List.length_append, List.length_replicate]; omega), by first | omega | exact Nat.le_of_ble_eq_true rfl | (simp only [List.length_nil, List.length_cons, List.length_append, List.length_replicate]; omega)⟩) ?_
   rintro _ w4862 ⟨rfl, hg4863⟩
   have hb4864 := low0 hb4850 hg4863
   refine wpo_not (b' := false) (congrArg Value.bool (decide_eq_true rfl)) rfl rfl ?_
   refine wpo_move (v := .bool false) rfl rfl ?_
   refine wpo_run rfl rfl rfl rfl ?_
   refine wpo_move (v := .bool true) rfl rfl ?_
   refine wpo_run rfl rfl rfl rfl ?_
   refine wpo_move (v := .bool true) rfl rfl ?_
   refine wpo_run rfl rfl rfl rfl ?_
   refine wpo_neqb (q := false) (by kernel_rfl) rfl rfl (by simp) rfl ?_
   refine wpo_pickf (v := .bool false) rfl rfl rfl rfl ?_
   refine wpo_nil ?_
   refine wpf_condf rfl rfl ?_
   refine wpf_skip ?_
   refine thn_n ?_
   refine wpf_seq_region ?_
   refine wpo_assign (v := .int .i64 1) rfl rfl ?_
   refine wpo_nil ?_
   refine wpf_seq_region ?_
   have k4865 := (((k4846.grown0 hN4840.grw).grown hS4849.grw (some_ne (by omega))).grown0 hg4863)
   refine wpo_loadn (vs := [.int .i64 k, .int .i64 l.s, .int .i64 l.v, .int .i64 0, .int .i64 0, .slice (some ⟨B4781, 0, none⟩) 4 cap4782, .slice none 0 0, .int .i64 to]) rt_45 rfl rfl (k4865.rangeL 0 8 rfl) rfl ?_
   refine wpo_move (v := .int .i64 1) rfl rfl ?_
   have k4868 := (((k4845.grown0 hN4840.grw).grown hS4849.grw (some_ne (by omega))).grown0 hg4863)
   refine wpo_call (vs := [.agg #[.int .i64 k, .int .i64 l.s, .int .i64 l.v, .int .i64 0, .int .i64 0, .slice (some ⟨B4781, 0, none⟩) 4 cap4782, .slice none 0 0, .int .i64 to], .int .i64 1]) gf_30 (args_cons rfl (args_cons rfl args_nil)) rfl (heldThing_y k 0 0 to l B4781 cap4782 _ k4868) ?_
   rintro _ w4866 ⟨rfl, hg4867⟩
   have hb4869 := low0 hb4864 hg4867
   refine wpo_assign (v := .int .i64 21) rfl rfl ?_
   refine wpo_nil ?_
   refine wpf_seq ?_
   refine wpf_seq_region ?_
   refine wpo_move (v := .int .i64 21) rfl rfl ?_
   refine wpo_lss (q := false) rfl rfl (by decide) rfl ?_
   refine wpo_nil ?_
   refine wpf_condf rfl rfl ?_
   refine wpf_skip ?_
   refine thn_n ?_
   refine wpf_seq ?_
   refine wpf_seq_region ?_
   refine wpo_move (v := .int .i64 21) rfl rfl ?_
   refine wpo_move (v := .int .i64 21) rfl rfl ?_
   refine wpo_neq (q := false) rfl rfl (by decide) rfl ?_
   refine wpo_nil ?_
   refine wpf_condf rfl rfl ?_
   refine wpf_skip ?_
   refine thn_n ?_
   refine wpf_seq_region ?_
   refine wpo_assign (v := .bool true) rfl rfl ?_
   refine wpo_nil ?_
   refine wpf_ret ?_
   refine ⟨.bool true, res1 rfl rfl, ?_, hb4869⟩
   rfl
  ·
   refine wpf_seq_region ?_
   refine wpo_box (v := .agg #[.int .i64 l.s, .int .i64 l.v]) (cs := #[.int .i64 l.s, .int .i64 l.v]) rfl rfl rfl ?_
   intro B4870 w4871 hN4872
   have hlB4870 := hN_ge hN4872 hb0
   have hb4873 := low0 hb0 hN4872.grw
   refine wpo_assign (v := .bool false) rfl rfl ?_
   refine wpo_nil ?_
   refine wpf_seq_region ?_
   refine wpo_move (v := .int .i64 k) rfl rfl ?_
   refine wpo_loadn (vs := [.int .i64 l.s, .int .i64 l.v]) rt_50 rfl rfl (hN4872.blk.rangeL 0 2 rfl) rfl ?_
   refine wpo_call (vs := [.agg #[.int .i64 l.s, .int .i64 l.v]]) gf_27 (args_cons rfl args_nil) rfl (toLabel_c l _) ?_
   rintro _ w4874 ⟨rfl, hg4875⟩
   have hb4876 := low0 hb4873 hg4875
   refine wpo_move (v := .int .i64 to) rfl rfl ?_
   have k4877 := (hN4872.blk.grown0 hg4875)
   refine wpo_call (vs := [.int .i64 k, .agg #[.int .i64 l.s, .int .i64 l.v], .int .i64 to]) gf_23 (args_cons rfl (args_cons rfl (args_cons rfl args_nil))) rfl (sThingNew_yf k to l h4742 h4743 _) ?_
   rintro _ w4878 ⟨rfl, hg4879⟩
   have hb4880 := low0 hb4876 hg4879
   refine wpo_move (v := .tuple #[.agg #[.int .i64 0, .int .i64 0, .int .i64 0, .int .i64 0, .int .i64 0, .slice none 0 0, .slice none 0 0, .int .i64 0], .bool false]) rfl rfl ?_
   refine wpo_extract (v := .agg #[.int .i64 0, .int .i64 0, .int .i64 0, .int .i64 0, .int .i64 0, .slice none 0 0, .slice none 0 0, .int .i64 0]) rfl rfl rfl ?_
   refine wpo_extract (v := .bool false) rfl rfl rfl ?_
   refine wpo_alloc (cs := #[.int .i64 0, .int .i64 0, .int .i64 0, .int .i64 0, .int .i64 0, .slice none 0 0, .slice none 0 0, .int .i64 0]) zt_45 rfl rfl ?_
   intro B4881 w4882 hN4883
   have hlB4881 := hN_ge hN4883 hb4880
   have k4884 := (k4877.grown0 hg4879)
   have lt_B4870_B4881 := hN_gtl hN4883 (k4884).lt
   have hb4885 := low0 hb4880 hN4883.grw
   refine wpo_storen (vs := [.int .i64 0, .int .i64 0, .int .i64 0, .int .i64 0, .int .i64 0, .slice none 0 0, .slice none 0 0, .int .i64 0]) (cs' := #[.int .i64 0, .int .i64 0, .int .i64 0, .int .i64 0, .int .i64 0, .slice none 0 0, .slice none 0 0, .int .i64 0]) rt_45 rfl rfl rfl (by simp [Value.oneCell']) hN4883.blk (Nat.le_of_ble_eq_true rfl) rfl ?_
   intro w4886 hS4887
   have hb4888 := low1 hb4885 hS4887.grw (by omega)
   refine wpo_assign (v := .bool false) rfl rfl ?_
   refine wpo_nil ?_
   refine wpf_seq_region ?_
   refine wpo_move (v := .int .i64 k) rfl rfl ?_
   have k4889 := ((k4884.grown0 hN4883.grw).grown hS4887.grw (some_ne (by omega)))
   refine wpo_loadn (vs := [.int .i64 l.s, .int .i64 l.v]) rt_50 rfl rfl (k4889.rangeL 0 2 rfl) rfl ?_
   refine wpo_call (vs := [.agg #[.int .i64 l.s, .int .i64 l.v]]) gf_27 (args_cons rfl args_nil) rfl (toLabel_c l _) ?_
   rintro _ w4890 ⟨rfl, hg4891⟩
   have hb4892 := low0 hb4888 hg4891
   refine wpo_move (v := .int .i64 to) rfl rfl ?_
   have k4893 := (k4889.grown0 hg4891)
   have k4894 := (hS4887.blk.grown0 hg4891)
   refine wpo_call (vs := [.int .i64 k, .agg #[.int .i64 l.s, .int .i64 l.v], .int .i64 to]) gf_24 (args_cons rfl (args_cons rfl (args_cons rfl args_nil))) rfl (ThingNew_yf k to l h4742 h4743 _) ?_
   rintro _ w4895 ⟨rfl, hg4896⟩
   have hb4897 := low0 hb4892 hg4896
   refine wpo_move (v := .tuple #[.agg #[.int .i64 0, .int .i64 0, .int .i64 0, .int .i64 0, .int .i64 0, .slice none 0 0, .slice none 0 0, .int .i64 0], .bool false]) rfl rfl ?_
   refine wpo_extract (v := .agg #[.int .i64 0, .int .i64 0, .int .i64 0, .int .i64 0, .int .i64 0, .slice none 0 0, .slice none 0 0, .int .i64 0]) rfl rfl rfl ?_
   refine wpo_extract (v := .bool false) rfl rfl rfl ?_
   refine wpo_alloc (cs := #[.int .i64 0, .int .i64 0, .int .i64 0, .int .i64 0, .int .i64 0, .slice none 0 0, .slice none 0 0, .int .i64 0]) zt_45 rfl rfl ?_
   intro B4898 w4899 hN4900
   have hlB4898 := hN_ge hN4900 hb4897
   have k4901 := (k4893.grown0 hg4896)
   have lt_B4870_B4898 := hN_gtl hN4900 (k4901).lt
   have k4902 := (k4894.grown0 hg4896)
   have lt_B4881_B4898 := hN_gtl hN4900 (k4902).lt
   have hb4903 := low0 hb4897 hN4900.grw
   refine wpo_storen (vs := [.int .i64 0, .int .i64 0, .int .i64 0, .int .i64 0, .int .i64 0, .slice none 0 0, .slice none 0 0, .int .i64 0]) (cs' := #[.int .i64 0, .int .i64 0, .int .i64 0, .int .i64 0, .int .i64 0, .slice none 0 0, .slice none 0 0, .int .i64 0]) rt_45 rfl rfl rfl (by simp [Value.oneCell']) hN4900.blk (Nat.le_of_ble_eq_true rfl) rfl ?_
   intro w4904 hS4905
   have hb4906 := low1 hb4903 hS4905.grw (by omega)
   refine wpo_assign (v := .bool false) rfl rfl ?_
   refine wpo_nil ?_
   refine wpf_seq ?_
   refine wpf_seq_region ?_
   refine wpo_loadn (vs := [.int .i64 0, .int .i64 0, .int .i64 0, .int .i64 0, .int .i64 0, .slice none 0 0, .slice none 0 0, .int .i64 0]) rt_45 rfl rfl (hS4905.blk.rangeL 0 8 rfl) rfl ?_
   have k4911 := ((k4902.grown0 hN4900.grw).grown hS4905.grw (some_ne (by omega)))
   refine wpo_loadn (vs := [.int .i64 0, .int .i64 0, .int .i64 0, .int .i64 0, .int .i64 0, .slice none 0 0, .slice none 0 0, .int .i64 0]) rt_45 rfl rfl (k4911.rangeL 0 8 rfl) rfl ?_
   refine wpo_call (vs := [.agg #[.int .i64 0, .int .i64 0, .int .i64 0, .int .i64 0, .int .i64 0, .slice none 0 0, .slice none 0 0, .int .i64 0], .agg #[.int .i64 0, .int .i64 0, .int .i64 0, .int .i64 0, .int .i64 0, .slice none 0 0, .slice none 0 0, .int .i64 0]]) gf_28 (args_cons rfl (args_cons rfl args_nil)) rfl (eqThing_c (⟨⟨0, ⟨0, 0⟩, 0, 0, [], [], 0⟩, none, 0, none, 0⟩ : MTh) (⟨⟨0, ⟨0, 0⟩, 0, 0, [], [], 0⟩, none, 0, none, 0⟩ : MTh) _ ⟨SlAt.nil, SlAt.nil, (fun _ => rfl), (fun _ => rfl)⟩ ⟨SlAt.nil, SlAt.nil, (fun _ => rfl), (fun _ => rfl)⟩ ⟨by first | omega | exact Nat.le_of_ble_eq_true rfl | (simp only [List.length_nil, List.length_cons, List.length_append, List.length_replicate]; omega), by first | omega | exact Nat.le_of_ble_eq_true rfl | (simp only [List.length_nil, List.length_cons, List.length_append, List.length_replicate]; omega)⟩ ⟨by first | omega | exact Nat.le_of_ble_eq_true rfl | (simp only [List.length_nil, List.length_cons, List.length_append, List.length_replicate]; omega), by first | omega | exact Nat.le_of_ble_eq_true rfl | (simp only [List.length_nil, List.length_cons, List.length_append, List.length_replicate]; omega)⟩) ?_
   rintro _ w4912 ⟨rfl, hg4913⟩
   have hb4914 := low0 hb4906 hg4913
   refine wpo_not (b' := false) (congrArg Value.bool (decide_eq_true rfl)) rfl rfl ?_
   refine wpo_move (v := .bool false) rfl rfl ?_
   refine wpo_run rfl rfl rfl rfl ?_
   refine wpo_move (v := .bool false) rfl rfl ?_
   refine wpo_run rfl rfl rfl rfl ?_
   refine wpo_move (v := .bool false) rfl rfl ?_
   refine wpo_run rfl rfl rfl rfl ?_
   refine wpo_neqb (q := false) (by kernel_rfl) rfl rfl (by simp) rfl ?_
   refine wpo_pickf (v := .bool false) rfl rfl rfl rfl ?_
   refine wpo_nil ?_
   refine wpf_condf rfl rfl ?_
   refine wpf_skip ?_
   refine thn_n ?_
   refine wpf_seq_region ?_
   refine wpo_assign (v := .int .i64 1) rfl rfl ?_
   refine wpo_nil ?_
   refine wpf_seq_region ?_
   have k4915 := (hS4905.blk.grown0 hg4913)
   refine wpo_loadn (vs := [.int .i64 0, .int .i64 0, .int .i64 0, .int .i64 0, .int .i64 0, .slice none 0 0, .slice none 0 0, .int .i64 0]) rt_45 rfl rfl (k4915.rangeL 0 8 rfl) rfl ?_
   refine wpo_move (v := .int .i64 1) rfl rfl ?_
   refine wpo_call (vs := [.agg #[.int .i64 0, .int .i64 0, .int .i64 0, .int .i64 0, .int .i64 0, .slice none 0 0, .slice none 0 0, .int .i64 0], .int .i64 1]) gf_29 (args_cons rfl (args_cons rfl args_nil)) rfl (markThing_n 0 0 0 0 ⟨0, 0⟩ _) ?_
   rintro _ w4916 ⟨rfl, hg4917⟩
   have hb4918 := low0 hb4914 hg4917
   refine wpo_assign (v := .int .i64 1) rfl rfl ?_
   refine wpo_nil ?_
   refine wpf_seq_region ?_
   refine wpo_assign (v := .int .i64 1) rfl rfl ?_
   refine wpo_nil ?_
   refine wpf_seq_region ?_
   have k4919 := (k4915.grown0 hg4917)
   refine wpo_loadn (vs := [.int .i64 0, .int .i64 0, .int .i64 0, .int .i64 0, .int .i64 0, .slice none 0 0, .slice none 0 0, .int .i64 0]) rt_45 rfl rfl (k4919.rangeL 0 8 rfl) rfl ?_
   refine wpo_move (v := .int .i64 1) rfl rfl ?_
   refine wpo_call (vs := [.agg #[.int .i64 0, .int .i64 0, .int .i64 0, .int .i64 0, .int .i64 0, .slice none 0 0, .slice none 0 0, .int .i64 0], .int .i64 1]) gf_30 (args_cons rfl (args_cons rfl args_nil)) rfl (heldThing_n 0 0 0 0 ⟨0, 0⟩ _) ?_
   rintro _ w4920 ⟨rfl, hg4921⟩
   have hb4922 := low0 hb4918 hg4921
   refine wpo_assign (v := .int .i64 1) rfl rfl ?_
   refine wpo_nil ?_
   refine wpf_seq ?_
   refine wpf_seq_region ?_
   refine wpo_move (v := .int .i64 1) rfl rfl ?_
   refine wpo_lss (q := false) rfl rfl (by decide) rfl ?_
   refine wpo_nil ?_
   refine wpf_condf rfl rfl ?_
   refine wpf_skip ?_
   refine thn_n ?_
   refine wpf_seq ?_
   refine wpf_seq_region ?_
   refine wpo_move (v := .int .i64 1) rfl rfl ?_
   refine wpo_move (v := .int .i64 1) rfl rfl ?_
   refine wpo_neq (q := false) rfl rfl (by decide) rfl ?_
   refine wpo_nil ?_
   refine wpf_condf rfl rfl ?_
   refine wpf_skip ?_
   refine thn_n ?_
   refine wpf_seq_region ?_
   refine wpo_move (v := .int .i64 k) rfl rfl ?_
   have k4923 := (((((k4901.grown0 hN4900.grw).grown hS4905.grw (some_ne (by omega))).grown0 hg4913).grown0 hg4917).grown0 hg4921)
   refine wpo_loadn (vs := [.int .i64 l.s, .int .i64 l.v]) rt_50 rfl rfl (k4923.rangeL 0 2 rfl) rfl ?_
   refine wpo_call (vs := [.agg #[.int .i64 l.s, .int .i64 l.v]]) gf_27 (args_cons rfl args_nil) rfl (toLabel_c l _) ?_
   rintro _ w4924 ⟨rfl, hg4925⟩
   have hb4926 := low0 hb4922 hg4925
   refine wpo_move (v := .int .i64 to) rfl rfl ?_
   have k4927 := (k4923.grown0 hg4925)
   have k4928 := ((((k4911.grown0 hg4913).grown0 hg4917).grown0 hg4921).grown0 hg4925)
   have k4929 := ((k4919.grown0 hg4921).grown0 hg4925)
   refine wpo_call (vs := [.int .i64 k, .agg #[.int .i64 l.s, .int .i64 l.v], .int .i64 to]) gf_24 (args_cons rfl (args_cons rfl (args_cons rfl args_nil))) rfl (ThingNew_yf k to l h4742 h4743 _) ?_
   rintro _ w4930 ⟨rfl, hg4931⟩
   have hb4932 := low0 hb4926 hg4931
   refine wpo_move (v := .tuple #[.agg #[.int .i64 0, .int .i64 0, .int .i64 0, .int .i64 0, .int .i64 0, .slice none 0 0, .slice none 0 0, .int .i64 0], .bool false]) rfl rfl ?_
   refine wpo_extract (v := .agg #[.int .i64 0, .int .i64 0, .int .i64 0, .int .i64 0, .int .i64 0, .slice none 0 0, .slice none 0 0, .int .i64 0]) rfl rfl rfl ?_
   refine wpo_extract (v := .bool false) rfl rfl rfl ?_
   refine wpo_alloc (cs := #[.int .i64 0, .int .i64 0, .int .i64 0, .int .i64 0, .int .i64 0, .slice none 0 0, .slice none 0 0, .int .i64 0]) zt_45 rfl rfl ?_
   intro B4933 w4934 hN4935
   have hlB4933 := hN_ge hN4935 hb4932
   have k4936 := (k4927.grown0 hg4931)
   have lt_B4870_B4933 := hN_gtl hN4935 (k4936).lt
   have k4937 := (k4928.grown0 hg4931)
   have lt_B4881_B4933 := hN_gtl hN4935 (k4937).lt
   have k4938 := (k4929.grown0 hg4931)
   have lt_B4898_B4933 := hN_gtl hN4935 (k4938).lt
   have hb4939 := low0 hb4932 hN4935.grw
   refine wpo_storen (vs := [.int .i64 0, .int .i64 0, .int .i64 0, .int .i64 0, .int .i64 0, .slice none 0 0, .slice none 0 0, .int .i64 0]) (cs' := #[.int .i64 0, .int .i64 0, .int .i64 0, .int .i64 0, .int .i64 0, .slice none 0 0, .slice none 0 0, .int .i64 0]) rt_45 rfl rfl rfl (by simp [Value.oneCell']) hN4935.blk (Nat.le_of_ble_eq_true rfl) rfl ?_
   intro w4940 hS4941
   have hb4942 := low1 hb4939 hS4941.grw (by omega)
   refine wpo_assign (v := .bool false) rfl rfl ?_
   refine wpo_nil ?_
   refine wpf_seq ?_
   refine wpf_seq_region ?_
   refine wpo_loadn (vs := [.int .i64 0, .int .i64 0, .int .i64 0, .int .i64 0, .int .i64 0, .slice none 0 0, .slice none 0 0, .int .i64 0]) rt_45 rfl rfl (hS4941.blk.rangeL 0 8 rfl) rfl ?_
   have k4947 := ((k4937.grown0 hN4935.grw).grown hS4941.grw (some_ne (by omega)))
   refine wpo_loadn (vs := [.int .i64 0, .int .i64 0, .int .i64 0, .int .i64 0, .int .i64 0, .slice none 0 0, .slice none 0 0, .int .i64 0]) rt_45 rfl rfl (k4947.rangeL 0 8 rfl) rfl ?_
   refine wpo_call (vs := [.agg #[.int .i64 0, .int .i64 0, .int .i64 0, .int .i64 0, .int .i64 0, .slice none 0 0, .slice none 0 0, .int .i64 0], .agg #[.int .i64 0, .int .i64 0, .int .i64 0, .int .i64 0, .int .i64 0, .slice none 0 0, .slice none 0 0, .int .i64 0]]) gf_28 (args_cons rfl (args_cons rfl args_nil)) rfl (eqThing_c (⟨⟨0, ⟨0, 0⟩, 0, 0, [], [], 0⟩, none, 0, none, 0⟩ : MTh) (⟨⟨0, ⟨0, 0⟩, 0, 0, [], [], 0⟩, none, 0, none, 0⟩ : MTh) _ ⟨SlAt.nil, SlAt.nil, (fun _ => rfl), (fun _ => rfl)⟩ ⟨SlAt.nil, SlAt.nil, (fun _ => rfl), (fun _ => rfl)⟩ ⟨by first | omega | exact Nat.le_of_ble_eq_true rfl | (simp only [List.length_nil, List.length_cons, List.length_append, List.length_replicate]; omega), by first | omega | exact Nat.le_of_ble_eq_true rfl | (simp only [List.length_nil, List.length_cons, List.length_append, List.length_replicate]; omega)⟩ ⟨by first | omega | exact Nat.le_of_ble_eq_true rfl | (simp only [List.length_nil, List.length_cons, List.length_append, List.length_replicate]; omega), by first | omega | exact Nat.le_of_ble_eq_true rfl | (simp only [List.length_nil, List.length_cons, List.length_append, List.length_replicate]; omega)⟩) ?_
   rintro _ w4948 ⟨rfl, hg4949⟩
   have hb4950 := low0 hb4942 hg4949
   refine wpo_not (b' := false) (congrArg Value.bool (decide_eq_true rfl)) rfl rfl ?_
   refine wpo_move (v := .bool false) rfl rfl ?_
   refine wpo_run rfl rfl rfl rfl ?_
   refine wpo_move (v := .bool false) rfl rfl ?_
   refine wpo_run rfl rfl rfl rfl ?_
   refine wpo_move (v := .bool false) rfl rfl ?_
   refine wpo_run rfl rfl rfl rfl ?_
   refine wpo_neqb (q := false) (by kernel_rfl) rfl rfl (by simp) rfl ?_
   refine wpo_pickf (v := .bool false) rfl rfl rfl rfl ?_
   refine wpo_nil ?_
   refine wpf_condf rfl rfl ?_
   refine wpf_skip ?_
   refine thn_n ?_
   refine wpf_seq_region ?_
   refine wpo_assign (v := .int .i64 1) rfl rfl ?_
   refine wpo_nil ?_
   refine wpf_seq_region ?_
   have k4951 := (((k4938.grown0 hN4935.grw).grown hS4941.grw (some_ne (by omega))).grown0 hg4949)
   refine wpo_loadn (vs := [.int .i64 0, .int .i64 0, .int .i64 0, .int .i64 0, .int .i64 0, .slice none 0 0, .slice none 0 0, .int .i64 0]) rt_45 rfl rfl (k4951.rangeL 0 8 rfl) rfl ?_
   refine wpo_move (v := .int .i64 1) rfl rfl ?_
   refine wpo_call (vs := [.agg #[.int .i64 0, .int .i64 0, .int .i64 0, .int .i64 0, .int .i64 0, .slice none 0 0, .slice none 0 0, .int .i64 0], .int .i64 1]) gf_30 (args_cons rfl (args_cons rfl args_nil)) rfl (heldThing_n 0 0 0 0 ⟨0, 0⟩ _) ?_
   rintro _ w4952 ⟨rfl, hg4953⟩
   have hb4954 := low0 hb4950 hg4953
   refine wpo_assign (v := .int .i64 1) rfl rfl ?_
   refine wpo_nil ?_
   refine wpf_seq ?_
   refine wpf_seq_region ?_
   refine wpo_move (v := .int .i64 1) rfl rfl ?_
   refine wpo_lss (q := false) rfl rfl (by decide) rfl ?_
   refine wpo_nil ?_
   refine wpf_condf rfl rfl ?_
   refine wpf_skip ?_
   refine thn_n ?_
   refine wpf_seq ?_
   refine wpf_seq_region ?_
   refine wpo_move (v := .int .i64 1) rfl rfl ?_
   refine wpo_move (v := .int .i64 1) rfl rfl ?_
   refine wpo_neq (q := false) rfl rfl (by decide) rfl ?_
   refine wpo_nil ?_
   refine wpf_condf rfl rfl ?_
   refine wpf_skip ?_
   refine thn_n ?_
   refine wpf_seq_region ?_
   refine wpo_assign (v := .bool true) rfl rfl ?_
   refine wpo_nil ?_
   refine wpf_ret ?_
   refine ⟨.bool true, res1 rfl rfl, ?_, hb4954⟩
   rfl
 ·
  have h4955 := or_l h4742
  have h4956 := of_decide_eq_false h4955
  have h4957 := or_r h4742
  have h4958 := of_decide_eq_false h4957
  rcases bcases (newOk k l to) with h4959 | h4959
  ·
   refine wpf_seq_region ?_
   refine wpo_box (v := .agg #[.int .i64 l.s, .int .i64 l.v]) (cs := #[.int .i64 l.s, .int .i64 l.v]) rfl rfl rfl ?_
   intro B4960 w4961 hN4962
   have hlB4960 := hN_ge hN4962 hb0
   have hb4963 := low0 hb0 hN4962.grw
   refine wpo_assign (v := .bool false) rfl rfl ?_
   refine wpo_nil ?_
   refine wpf_seq_region ?_
   refine wpo_move (v := .int .i64 k) rfl rfl ?_
   refine wpo_loadn (vs := [.int .i64 l.s, .int .i64 l.v]) rt_50 rfl rfl (hN4962.blk.rangeL 0 2 rfl) rfl ?_
   refine wpo_call (vs := [.agg #[.int .i64 l.s, .int .i64 l.v]]) gf_27 (args_cons rfl args_nil) rfl (toLabel_c l _) ?_
   rintro _ w4964 ⟨rfl, hg4965⟩
   have hb4966 := low0 hb4963 hg4965
   refine wpo_move (v := .int .i64 to) rfl rfl ?_
   have k4967 := (hN4962.blk.grown0 hg4965)
   refine wpo_call (vs := [.int .i64 k, .agg #[.int .i64 l.s, .int .i64 l.v], .int .i64 to]) gf_23 (args_cons rfl (args_cons rfl (args_cons rfl args_nil))) rfl (sThingNew_nt k to l h4742 h4959 _) ?_
   rintro _ w4968 ⟨B4970, cap4971, B4974, cap4975, rfl, hge4972, hO4973, hge4976, hO4977, ne_B4970_B4974, hg4969⟩
   have hb4978 := low0 hb4966 hg4969
   have hlB4970 := Nat.le_trans hb4966.size hge4972
   have lt_B4960_B4970 := Nat.lt_of_lt_of_le (k4967).lt hge4972
   have hlB4974 := Nat.le_trans hb4966.size hge4976
   have lt_B4960_B4974 := Nat.lt_of_lt_of_le (k4967).lt hge4976
   refine wpo_move (v := .tuple #[.agg #[.int .i64 k, .int .i64 l.s, .int .i64 l.v, .int .i64 0, .int .i64 0, .slice (some ⟨B4970, 0, none⟩) 0 cap4971, .slice (some ⟨B4974, 0, none⟩) 0 cap4975, .int .i64 to], .bool true]) rfl rfl ?_
   refine wpo_extract (v := .agg #[.int .i64 k, .int .i64 l.s, .int .i64 l.v, .int .i64 0, .int .i64 0, .slice (some ⟨B4970, 0, none⟩) 0 cap4971, .slice (some ⟨B4974, 0, none⟩) 0 cap4975, .int .i64 to]) rfl rfl rfl ?_
   refine wpo_extract (v := .bool true) rfl rfl rfl ?_
   refine wpo_alloc (cs := #[.int .i64 0, .int .i64 0, .int .i64 0, .int .i64 0, .int .i64 0, .slice none 0 0, .slice none 0 0, .int .i64 0]) zt_45 rfl rfl ?_
   intro B4979 w4980 hN4981
   have hlB4979 := hN_ge hN4981 hb4978
   have k4982 := (k4967.grown0 hg4969)
   have lt_B4960_B4979 := hN_gtl hN4981 (k4982).lt
   have lt_B4974_B4979 := hN_gtl hN4981 (hO4977).lt
   have lt_B4970_B4979 := hN_gtl hN4981 (hO4973).lt
   have hb4983 := low0 hb4978 hN4981.grw
   refine wpo_storen (vs := [.int .i64 k, .int .i64 l.s, .int .i64 l.v, .int .i64 0, .int .i64 0, .slice (some ⟨B4970, 0, none⟩) 0 cap4971, .slice (some ⟨B4974, 0, none⟩) 0 cap4975, .int .i64 to]) (cs' := #[.int .i64 k, .int .i64 l.s, .int .i64 l.v, .int .i64 0, .int .i64 0, .slice (some ⟨B4970, 0, none⟩) 0 cap4971, .slice (some ⟨B4974, 0, none⟩) 0 cap4975, .int .i64 to]) rt_45 rfl rfl rfl (by simp [Value.oneCell']) hN4981.blk (Nat.le_of_ble_eq_true rfl) rfl ?_
   intro w4984 hS4985
   have hb4986 := low1 hb4983 hS4985.grw (by omega)
   refine wpo_assign (v := .bool true) rfl rfl ?_
   refine wpo_nil ?_
   refine wpf_seq_region ?_
   refine wpo_move (v := .int .i64 k) rfl rfl ?_
   have k4987 := ((k4982.grown0 hN4981.grw).grown hS4985.grw (some_ne (by omega)))
   refine wpo_loadn (vs := [.int .i64 l.s, .int .i64 l.v]) rt_50 rfl rfl (k4987.rangeL 0 2 rfl) rfl ?_
   refine wpo_call (vs := [.agg #[.int .i64 l.s, .int .i64 l.v]]) gf_27 (args_cons rfl args_nil) rfl (toLabel_c l _) ?_
   rintro _ w4988 ⟨rfl, hg4989⟩
   have hb4990 := low0 hb4986 hg4989
   refine wpo_move (v := .int .i64 to) rfl rfl ?_
   have k4991 := (k4987.grown0 hg4989)
   have k4992 := (((hO4977.grown0 hN4981.grw).grown hS4985.grw (some_ne (by omega))).grown0 hg4989)
   have k4993 := (((hO4973.grown0 hN4981.grw).grown hS4985.grw (some_ne (by omega))).grown0 hg4989)
   have k4994 := (hS4985.blk.grown0 hg4989)
   refine wpo_call (vs := [.int .i64 k, .agg #[.int .i64 l.s, .int .i64 l.v], .int .i64 to]) gf_24 (args_cons rfl (args_cons rfl (args_cons rfl args_nil))) rfl (ThingNew_nt k to l h4742 h4959 _) ?_
   rintro _ w4995 ⟨rfl, hg4996⟩
   have hb4997 := low0 hb4990 hg4996
   refine wpo_move (v := .tuple #[.agg #[.int .i64 k, .int .i64 l.s, .int .i64 l.v, .int .i64 0, .int .i64 0, .slice none 0 0, .slice none 0 0, .int .i64 to], .bool true]) rfl rfl ?_
   refine wpo_extract (v := .agg #[.int .i64 k, .int .i64 l.s, .int .i64 l.v, .int .i64 0, .int .i64 0, .slice none 0 0, .slice none 0 0, .int .i64 to]) rfl rfl rfl ?_
   refine wpo_extract (v := .bool true) rfl rfl rfl ?_
   refine wpo_alloc (cs := #[.int .i64 0, .int .i64 0, .int .i64 0, .int .i64 0, .int .i64 0, .slice none 0 0, .slice none 0 0, .int .i64 0]) zt_45 rfl rfl ?_
   intro B4998 w4999 hN5000
   have hlB4998 := hN_ge hN5000 hb4997
   have k5001 := (k4991.grown0 hg4996)
   have lt_B4960_B4998 := hN_gtl hN5000 (k5001).lt
   have k5002 := (k4992.grown0 hg4996)
   have lt_B4974_B4998 := hN_gtl hN5000 (k5002).lt
   have k5003 := (k4993.grown0 hg4996)
   have lt_B4970_B4998 := hN_gtl hN5000 (k5003).lt
   have k5004 := (k4994.grown0 hg4996)
   have lt_B4979_B4998 := hN_gtl hN5000 (k5004).lt
   have hb5005 := low0 hb4997 hN5000.grw
   refine wpo_storen (vs := [.int .i64 k, .int .i64 l.s, .int .i64 l.v, .int .i64 0, .int .i64 0, .slice none 0 0, .slice none 0 0, .int .i64 to]) (cs' := #[.int .i64 k, .int .i64 l.s, .int .i64 l.v, .int .i64 0, .int .i64 0, .slice none 0 0, .slice none 0 0, .int .i64 to]) rt_45 rfl rfl rfl (by simp [Value.oneCell']) hN5000.blk (Nat.le_of_ble_eq_true rfl) rfl ?_
   intro w5006 hS5007
   have hb5008 := low1 hb5005 hS5007.grw (by omega)
   refine wpo_assign (v := .bool true) rfl rfl ?_
   refine wpo_nil ?_
   refine wpf_seq ?_
   refine wpf_seq_region ?_
   refine wpo_loadn (vs := [.int .i64 k, .int .i64 l.s, .int .i64 l.v, .int .i64 0, .int .i64 0, .slice none 0 0, .slice none 0 0, .int .i64 to]) rt_45 rfl rfl (hS5007.blk.rangeL 0 8 rfl) rfl ?_
   have k5015 := ((k5004.grown0 hN5000.grw).grown hS5007.grw (some_ne (by omega)))
   refine wpo_loadn (vs := [.int .i64 k, .int .i64 l.s, .int .i64 l.v, .int .i64 0, .int .i64 0, .slice (some ⟨B4970, 0, none⟩) 0 cap4971, .slice (some ⟨B4974, 0, none⟩) 0 cap4975, .int .i64 to]) rt_45 rfl rfl (k5015.rangeL 0 8 rfl) rfl ?_
   have k5016 := ((k5003.grown0 hN5000.grw).grown hS5007.grw (some_ne (by omega)))
   have k5017 := ((k5002.grown0 hN5000.grw).grown hS5007.grw (some_ne (by omega)))
   refine wpo_call (vs := [.agg #[.int .i64 k, .int .i64 l.s, .int .i64 l.v, .int .i64 0, .int .i64 0, .slice none 0 0, .slice none 0 0, .int .i64 to], .agg #[.int .i64 k, .int .i64 l.s, .int .i64 l.v, .int .i64 0, .int .i64 0, .slice (some ⟨B4970, 0, none⟩) 0 cap4971, .slice (some ⟨B4974, 0, none⟩) 0 cap4975, .int .i64 to]]) gf_28 (args_cons rfl (args_cons rfl args_nil)) rfl (eqThing_c (⟨⟨k, l, 0, 0, [], [], to⟩, none, 0, none, 0⟩ : MTh) (⟨⟨k, l, 0, 0, [], [], to⟩, some ⟨B4970, 0, none⟩, cap4971, some ⟨B4974, 0, none⟩, cap4975⟩ : MTh) _ ⟨SlAt.nil, SlAt.nil, (fun _ => rfl), (fun _ => rfl)⟩ ⟨(Own.sl wide_rt k5016), (Own.sl wide_int k5017), (fun h => by cases h), (fun h => by cases h)⟩ ⟨by first | omega | exact Nat.le_of_ble_eq_true rfl | (simp only [List.length_nil, List.length_cons, List.length_append, List.length_replicate]; omega), by first | omega | exact Nat.le_of_ble_eq_true rfl | (simp only [List.length_nil, List.length_cons, List.length_append, List.length_replicate]; omega)⟩ ⟨by first | omega | exact Nat.le_of_ble_eq_true rfl | (simp only [List.length_nil, List.length_cons, List.length_append, List.length_replicate]; omega), by first | omega | exact Nat.le_of_ble_eq_true rfl | (simp only [List.length_nil, List.length_cons, List.length_append, List.length_replicate]; omega)⟩) ?_
   rintro _ w5018 ⟨rfl, hg5019⟩
   have hb5020 := low0 hb5008 hg5019
   refine wpo_not (b' := false) (congrArg Value.bool (decide_eq_true rfl)) rfl rfl ?_
   refine wpo_move (v := .bool false) rfl rfl ?_
   refine wpo_run rfl rfl rfl rfl ?_
   refine wpo_move (v := .bool true) rfl rfl ?_
   refine wpo_run rfl rfl rfl rfl ?_
   refine wpo_move (v := .bool true) rfl rfl ?_
   refine wpo_run rfl rfl rfl rfl ?_
   refine wpo_neqb (q := false) (by kernel_rfl) rfl rfl (by simp) rfl ?_
   refine wpo_pickf (v := .bool false) rfl rfl rfl rfl ?_
   refine wpo_nil ?_
   refine wpf_condf rfl rfl ?_
   refine wpf_skip ?_
   refine thn_n ?_
   refine wpf_seq_region ?_
   refine wpo_assign (v := .int .i64 1) rfl rfl ?_
   refine wpo_nil ?_
   refine wpf_seq_region ?_
   have k5021 := (hS5007.blk.grown0 hg5019)
   refine wpo_loadn (vs := [.int .i64 k, .int .i64 l.s, .int .i64 l.v, .int .i64 0, .int .i64 0, .slice none 0 0, .slice none 0 0, .int .i64 to]) rt_45 rfl rfl (k5021.rangeL 0 8 rfl) rfl ?_
   refine wpo_move (v := .int .i64 1) rfl rfl ?_
   refine wpo_call (vs := [.agg #[.int .i64 k, .int .i64 l.s, .int .i64 l.v, .int .i64 0, .int .i64 0, .slice none 0 0, .slice none 0 0, .int .i64 to], .int .i64 1]) gf_29 (args_cons rfl (args_cons rfl args_nil)) rfl (markThing_n k 0 0 to l _) ?_
   rintro _ w5022 ⟨rfl, hg5023⟩
   have hb5024 := low0 hb5020 hg5023
   refine wpo_assign (v := .int .i64 1) rfl rfl ?_
   refine wpo_nil ?_
   refine wpf_seq_region ?_
   refine wpo_assign (v := .int .i64 1) rfl rfl ?_
   refine wpo_nil ?_
   refine wpf_seq_region ?_
   have k5025 := (k5021.grown0 hg5023)
   refine wpo_loadn (vs := [.int .i64 k, .int .i64 l.s, .int .i64 l.v, .int .i64 0, .int .i64 0, .slice none 0 0, .slice none 0 0, .int .i64 to]) rt_45 rfl rfl (k5025.rangeL 0 8 rfl) rfl ?_
   refine wpo_move (v := .int .i64 1) rfl rfl ?_
   refine wpo_call (vs := [.agg #[.int .i64 k, .int .i64 l.s, .int .i64 l.v, .int .i64 0, .int .i64 0, .slice none 0 0, .slice none 0 0, .int .i64 to], .int .i64 1]) gf_30 (args_cons rfl (args_cons rfl args_nil)) rfl (heldThing_n k 0 0 to l _) ?_
   rintro _ w5026 ⟨rfl, hg5027⟩
   have hb5028 := low0 hb5024 hg5027
   refine wpo_assign (v := .int .i64 1) rfl rfl ?_
   refine wpo_nil ?_
   refine wpf_seq ?_
   refine wpf_seq_region ?_
   refine wpo_move (v := .int .i64 1) rfl rfl ?_
   refine wpo_lss (q := false) rfl rfl (by decide) rfl ?_
   refine wpo_nil ?_
   refine wpf_condf rfl rfl ?_
   refine wpf_skip ?_
   refine thn_n ?_
   refine wpf_seq ?_
   refine wpf_seq_region ?_
   refine wpo_move (v := .int .i64 1) rfl rfl ?_
   refine wpo_move (v := .int .i64 1) rfl rfl ?_
   refine wpo_neq (q := false) rfl rfl (by decide) rfl ?_
   refine wpo_nil ?_
   refine wpf_condf rfl rfl ?_
   refine wpf_skip ?_
   refine thn_n ?_
   refine wpf_seq_region ?_
   refine wpo_move (v := .int .i64 k) rfl rfl ?_
   have k5029 := (((((k5001.grown0 hN5000.grw).grown hS5007.grw (some_ne (by omega))).grown0 hg5019).grown0 hg5023).grown0 hg5027)
   refine wpo_loadn (vs := [.int .i64 l.s, .int .i64 l.v]) rt_50 rfl rfl (k5029.rangeL 0 2 rfl) rfl ?_
   refine wpo_call (vs := [.agg #[.int .i64 l.s, .int .i64 l.v]]) gf_27 (args_cons rfl args_nil) rfl (toLabel_c l _) ?_
   rintro _ w5030 ⟨rfl, hg5031⟩
   have hb5032 := low0 hb5028 hg5031
   refine wpo_move (v := .int .i64 to) rfl rfl ?_
   have k5033 := (k5029.grown0 hg5031)
   have k5034 := ((((k5017.grown0 hg5019).grown0 hg5023).grown0 hg5027).grown0 hg5031)
   have k5035 := ((((k5016.grown0 hg5019).grown0 hg5023).grown0 hg5027).grown0 hg5031)
   have k5036 := ((((k5015.grown0 hg5019).grown0 hg5023).grown0 hg5027).grown0 hg5031)
   have k5037 := ((k5025.grown0 hg5027).grown0 hg5031)
   refine wpo_call (vs := [.int .i64 k, .agg #[.int .i64 l.s, .int .i64 l.v], .int .i64 to]) gf_24 (args_cons rfl (args_cons rfl (args_cons rfl args_nil))) rfl (ThingNew_nt k to l h4742 h4959 _) ?_
   rintro _ w5038 ⟨rfl, hg5039⟩
   have hb5040 := low0 hb5032 hg5039
   refine wpo_move (v := .tuple #[.agg #[.int .i64 k, .int .i64 l.s, .int .i64 l.v, .int .i64 0, .int .i64 0, .slice none 0 0, .slice none 0 0, .int .i64 to], .bool true]) rfl rfl ?_
   refine wpo_extract (v := .agg #[.int .i64 k, .int .i64 l.s, .int .i64 l.v, .int .i64 0, .int .i64 0, .slice none 0 0, .slice none 0 0, .int .i64 to]) rfl rfl rfl ?_
   refine wpo_extract (v := .bool true) rfl rfl rfl ?_
   refine wpo_alloc (cs := #[.int .i64 0, .int .i64 0, .int .i64 0, .int .i64 0, .int .i64 0, .slice none 0 0, .slice none 0 0, .int .i64 0]) zt_45 rfl rfl ?_
   intro B5041 w5042 hN5043
   have hlB5041 := hN_ge hN5043 hb5040
   have k5044 := (k5033.grown0 hg5039)
   have lt_B4960_B5041 := hN_gtl hN5043 (k5044).lt
   have k5045 := (k5034.grown0 hg5039)
   have lt_B4974_B5041 := hN_gtl hN5043 (k5045).lt
   have k5046 := (k5035.grown0 hg5039)
   have lt_B4970_B5041 := hN_gtl hN5043 (k5046).lt
   have k5047 := (k5036.grown0 hg5039)
   have lt_B4979_B5041 := hN_gtl hN5043 (k5047).lt
   have k5048 := (k5037.grown0 hg5039)
   have lt_B4998_B5041 := hN_gtl hN5043 (k5048).lt
   have hb5049 := low0 hb5040 hN5043.grw
   refine wpo_storen (vs := [.int .i64 k, .int .i64 l.s, .int .i64 l.v, .int .i64 0, .int .i64 0, .slice none 0 0, .slice none 0 0, .int .i64 to]) (cs' := #[.int .i64 k, .int .i64 l.s, .int .i64 l.v, .int .i64 0, .int .i64 0, .slice none 0 0, .slice none 0 0, .int .i64 to]) rt_45 rfl rfl rfl (by simp [Value.oneCell']) hN5043.blk (Nat.le_of_ble_eq_true rfl) rfl ?_
   intro w5050 hS5051
   have hb5052 := low1 hb5049 hS5051.grw (by omega)
   refine wpo_assign (v := .bool true) rfl rfl ?_
   refine wpo_nil ?_
   refine wpf_seq ?_
   refine wpf_seq_region ?_
   refine wpo_loadn (vs := [.int .i64 k, .int .i64 l.s, .int .i64 l.v, .int .i64 0, .int .i64 0, .slice none 0 0, .slice none 0 0, .int .i64 to]) rt_45 rfl rfl (hS5051.blk.rangeL 0 8 rfl) rfl ?_
   have k5059 := ((k5047.grown0 hN5043.grw).grown hS5051.grw (some_ne (by omega)))
   refine wpo_loadn (vs := [.int .i64 k, .int .i64 l.s, .int .i64 l.v, .int .i64 0, .int .i64 0, .slice (some ⟨B4970, 0, none⟩) 0 cap4971, .slice (some ⟨B4974, 0, none⟩) 0 cap4975, .int .i64 to]) rt_45 rfl rfl (k5059.rangeL 0 8 rfl) rfl ?_
   have k5060 := ((k5046.grown0 hN5043.grw).grown hS5051.grw (some_ne (by omega)))
   have k5061 := ((k5045.grown0 hN5043.grw).grown hS5051.grw (some_ne (by omega)))
   refine wpo_call (vs := [.agg #[.int .i64 k, .int .i64 l.s, .int .i64 l.v, .int .i64 0, .int .i64 0, .slice none 0 0, .slice none 0 0, .int .i64 to], .agg #[.int .i64 k, .int .i64 l.s, .int .i64 l.v, .int .i64 0, .int .i64 0, .slice (some ⟨B4970, 0, none⟩) 0 cap4971, .slice (some ⟨B4974, 0, none⟩) 0 cap4975, .int .i64 to]]) gf_28 (args_cons rfl (args_cons rfl args_nil)) rfl (eqThing_c (⟨⟨k, l, 0, 0, [], [], to⟩, none, 0, none, 0⟩ : MTh) (⟨⟨k, l, 0, 0, [], [], to⟩, some ⟨B4970, 0, none⟩, cap4971, some ⟨B4974, 0, none⟩, cap4975⟩ : MTh) _ ⟨SlAt.nil, SlAt.nil, (fun _ => rfl), (fun _ => rfl)⟩ ⟨(Own.sl wide_rt k5060), (Own.sl wide_int k5061), (fun h => by cases h), (fun h => by cases h)⟩ ⟨by first | omega | exact Nat.le_of_ble_eq_true rfl | (simp only [List.length_nil, List.length_cons, List.length_append, List.length_replicate]; omega), by first | omega | exact Nat.le_of_ble_eq_true rfl | (simp only [List.length_nil, List.length_cons, List.length_append, List.length_replicate]; omega)⟩ ⟨by first | omega | exact Nat.le_of_ble_eq_true rfl | (simp only [List.length_nil, List.length_cons, List.length_append, List.length_replicate]; omega), by first | omega | exact Nat.le_of_ble_eq_true rfl | (simp only [List.length_nil, List.length_cons, List.length_append, List.length_replicate]; omega)⟩) ?_
   rintro _ w5062 ⟨rfl, hg5063⟩
   have hb5064 := low0 hb5052 hg5063
   refine wpo_not (b' := false) (congrArg Value.bool (decide_eq_true rfl)) rfl rfl ?_
   refine wpo_move (v := .bool false) rfl rfl ?_
   refine wpo_run rfl rfl rfl rfl ?_
   refine wpo_move (v := .bool true) rfl rfl ?_
   refine wpo_run rfl rfl rfl rfl ?_
   refine wpo_move (v := .bool true) rfl rfl ?_
   refine wpo_run rfl rfl rfl rfl ?_
   refine wpo_neqb (q := false) (by kernel_rfl) rfl rfl (by simp) rfl ?_
   refine wpo_pickf (v := .bool false) rfl rfl rfl rfl ?_
   refine wpo_nil ?_
   refine wpf_condf rfl rfl ?_
   refine wpf_skip ?_
   refine thn_n ?_
   refine wpf_seq_region ?_
   refine wpo_assign (v := .int .i64 1) rfl rfl ?_
   refine wpo_nil ?_
   refine wpf_seq_region ?_
   have k5065 := (((k5048.grown0 hN5043.grw).grown hS5051.grw (some_ne (by omega))).grown0 hg5063)
   refine wpo_loadn (vs := [.int .i64 k, .int .i64 l.s, .int .i64 l.v, .int .i64 0, .int .i64 0, .slice none 0 0, .slice none 0 0, .int .i64 to]) rt_45 rfl rfl (k5065.rangeL 0 8 rfl) rfl ?_
   refine wpo_move (v := .int .i64 1) rfl rfl ?_
   refine wpo_call (vs := [.agg #[.int .i64 k, .int .i64 l.s, .int .i64 l.v, .int .i64 0, .int .i64 0, .slice none 0 0, .slice none 0 0, .int .i64 to], .int .i64 1]) gf_30 (args_cons rfl (args_cons rfl args_nil)) rfl (heldThing_n k 0 0 to l _) ?_
   rintro _ w5066 ⟨rfl, hg5067⟩
   have hb5068 := low0 hb5064 hg5067
   refine wpo_assign (v := .int .i64 1) rfl rfl ?_
   refine wpo_nil ?_
   refine wpf_seq ?_
   refine wpf_seq_region ?_
   refine wpo_move (v := .int .i64 1) rfl rfl ?_
   refine wpo_lss (q := false) rfl rfl (by decide) rfl ?_
   refine wpo_nil ?_
   refine wpf_condf rfl rfl ?_
   refine wpf_skip ?_
   refine thn_n ?_
   refine wpf_seq ?_
   refine wpf_seq_region ?_
   refine wpo_move (v := .int .i64 1) rfl rfl ?_
   refine wpo_move (v := .int .i64 1) rfl rfl ?_
   refine wpo_neq (q := false) rfl rfl (by decide) rfl ?_
   refine wpo_nil ?_
   refine wpf_condf rfl rfl ?_
   refine wpf_skip ?_
   refine thn_n ?_
   refine wpf_seq_region ?_
   refine wpo_assign (v := .bool true) rfl rfl ?_
   refine wpo_nil ?_
   refine wpf_ret ?_
   refine ⟨.bool true, res1 rfl rfl, ?_, hb5068⟩
   rfl
  ·
   refine wpf_seq_region ?_
   refine wpo_box (v := .agg #[.int .i64 l.s, .int .i64 l.v]) (cs := #[.int .i64 l.s, .int .i64 l.v]) rfl rfl rfl ?_
   intro B5069 w5070 hN5071
   have hlB5069 := hN_ge hN5071 hb0
   have hb5072 := low0 hb0 hN5071.grw
   refine wpo_assign (v := .bool false) rfl rfl ?_
   refine wpo_nil ?_
   refine wpf_seq_region ?_
   refine wpo_move (v := .int .i64 k) rfl rfl ?_
   refine wpo_loadn (vs := [.int .i64 l.s, .int .i64 l.v]) rt_50 rfl rfl (hN5071.blk.rangeL 0 2 rfl) rfl ?_
   refine wpo_call (vs := [.agg #[.int .i64 l.s, .int .i64 l.v]]) gf_27 (args_cons rfl args_nil) rfl (toLabel_c l _) ?_
   rintro _ w5073 ⟨rfl, hg5074⟩
   have hb5075 := low0 hb5072 hg5074
   refine wpo_move (v := .int .i64 to) rfl rfl ?_
   have k5076 := (hN5071.blk.grown0 hg5074)
   refine wpo_call (vs := [.int .i64 k, .agg #[.int .i64 l.s, .int .i64 l.v], .int .i64 to]) gf_23 (args_cons rfl (args_cons rfl (args_cons rfl args_nil))) rfl (sThingNew_nf k to l h4742 h4959 _) ?_
   rintro _ w5077 ⟨rfl, hg5078⟩
   have hb5079 := low0 hb5075 hg5078
   refine wpo_move (v := .tuple #[.agg #[.int .i64 0, .int .i64 0, .int .i64 0, .int .i64 0, .int .i64 0, .slice none 0 0, .slice none 0 0, .int .i64 0], .bool false]) rfl rfl ?_
   refine wpo_extract (v := .agg #[.int .i64 0, .int .i64 0, .int .i64 0, .int .i64 0, .int .i64 0, .slice none 0 0, .slice none 0 0, .int .i64 0]) rfl rfl rfl ?_
   refine wpo_extract (v := .bool false) rfl rfl rfl ?_
   refine wpo_alloc (cs := #[.int .i64 0, .int .i64 0, .int .i64 0, .int .i64 0, .int .i64 0, .slice none 0 0, .slice none 0 0, .int .i64 0]) zt_45 rfl rfl ?_
   intro B5080 w5081 hN5082
   have hlB5080 := hN_ge hN5082 hb5079
   have k5083 := (k5076.grown0 hg5078)
   have lt_B5069_B5080 := hN_gtl hN5082 (k5083).lt
   have hb5084 := low0 hb5079 hN5082.grw
   refine wpo_storen (vs := [.int .i64 0, .int .i64 0, .int .i64 0, .int .i64 0, .int .i64 0, .slice none 0 0, .slice none 0 0, .int .i64 0]) (cs' := #[.int .i64 0, .int .i64 0, .int .i64 0, .int .i64 0, .int .i64 0, .slice none 0 0, .slice none 0 0, .int .i64 0]) rt_45 rfl rfl rfl (by simp [Value.oneCell']) hN5082.blk (Nat.le_of_ble_eq_true rfl) rfl ?_
   intro w5085 hS5086
   have hb5087 := low1 hb5084 hS5086.grw (by omega)
   refine wpo_assign (v := .bool false) rfl rfl ?_
   refine wpo_nil ?_
   refine wpf_seq_region ?_
   refine wpo_move (v := .int .i64 k) rfl rfl ?_
   have k5088 := ((k5083.grown0 hN5082.grw).grown hS5086.grw (some_ne (by omega)))
   refine wpo_loadn (vs := [.int .i64 l.s, .int .i64 l.v]) rt_50 rfl rfl (k5088.rangeL 0 2 rfl) rfl ?_
   refine wpo_call (vs := [.agg #[.int .i64 l.s, .int .i64 l.v]]) gf_27 (args_cons rfl args_nil) rfl (toLabel_c l _) ?_
   rintro _ w5089 ⟨rfl, hg5090⟩
   have hb5091 := low0 hb5087 hg5090
   refine wpo_move (v := .int .i64 to) rfl rfl ?_
   have k5092 := (k5088.grown0 hg5090)
   have k5093 := (hS5086.blk.grown0 hg5090)
   refine wpo_call (vs := [.int .i64 k, .agg #[.int .i64 l.s, .int .i64 l.v], .int .i64 to]) gf_24 (args_cons rfl (args_cons rfl (args_cons rfl args_nil))) rfl (ThingNew_nf k to l h4742 h4959 _) ?_
   rintro _ w5094 ⟨rfl, hg5095⟩
   have hb5096 := low0 hb5091 hg5095
   refine wpo_move (v := .tuple #[.agg #[.int .i64 0, .int .i64 0, .int .i64 0, .int .i64 0, .int .i64 0, .slice none 0 0, .slice none 0 0, .int .i64 0], .bool false]) rfl rfl ?_
   refine wpo_extract (v := .agg #[.int .i64 0, .int .i64 0, .int .i64 0, .int .i64 0, .int .i64 0, .slice none 0 0, .slice none 0 0, .int .i64 0]) rfl rfl rfl ?_
   refine wpo_extract (v := .bool false) rfl rfl rfl ?_
   refine wpo_alloc (cs := #[.int .i64 0, .int .i64 0, .int .i64 0, .int .i64 0, .int .i64 0, .slice none 0 0, .slice none 0 0, .int .i64 0]) zt_45 rfl rfl ?_
   intro B5097 w5098 hN5099
   have hlB5097 := hN_ge hN5099 hb5096
   have k5100 := (k5092.grown0 hg5095)
   have lt_B5069_B5097 := hN_gtl hN5099 (k5100).lt
   have k5101 := (k5093.grown0 hg5095)
   have lt_B5080_B5097 := hN_gtl hN5099 (k5101).lt
   have hb5102 := low0 hb5096 hN5099.grw
   refine wpo_storen (vs := [.int .i64 0, .int .i64 0, .int .i64 0, .int .i64 0, .int .i64 0, .slice none 0 0, .slice none 0 0, .int .i64 0]) (cs' := #[.int .i64 0, .int .i64 0, .int .i64 0, .int .i64 0, .int .i64 0, .slice none 0 0, .slice none 0 0, .int .i64 0]) rt_45 rfl rfl rfl (by simp [Value.oneCell']) hN5099.blk (Nat.le_of_ble_eq_true rfl) rfl ?_
   intro w5103 hS5104
   have hb5105 := low1 hb5102 hS5104.grw (by omega)
   refine wpo_assign (v := .bool false) rfl rfl ?_
   refine wpo_nil ?_
   refine wpf_seq ?_
   refine wpf_seq_region ?_
   refine wpo_loadn (vs := [.int .i64 0, .int .i64 0, .int .i64 0, .int .i64 0, .int .i64 0, .slice none 0 0, .slice none 0 0, .int .i64 0]) rt_45 rfl rfl (hS5104.blk.rangeL 0 8 rfl) rfl ?_
   have k5110 := ((k5101.grown0 hN5099.grw).grown hS5104.grw (some_ne (by omega)))
   refine wpo_loadn (vs := [.int .i64 0, .int .i64 0, .int .i64 0, .int .i64 0, .int .i64 0, .slice none 0 0, .slice none 0 0, .int .i64 0]) rt_45 rfl rfl (k5110.rangeL 0 8 rfl) rfl ?_
   refine wpo_call (vs := [.agg #[.int .i64 0, .int .i64 0, .int .i64 0, .int .i64 0, .int .i64 0, .slice none 0 0, .slice none 0 0, .int .i64 0], .agg #[.int .i64 0, .int .i64 0, .int .i64 0, .int .i64 0, .int .i64 0, .slice none 0 0, .slice none 0 0, .int .i64 0]]) gf_28 (args_cons rfl (args_cons rfl args_nil)) rfl (eqThing_c (⟨⟨0, ⟨0, 0⟩, 0, 0, [], [], 0⟩, none, 0, none, 0⟩ : MTh) (⟨⟨0, ⟨0, 0⟩, 0, 0, [], [], 0⟩, none, 0, none, 0⟩ : MTh) _ ⟨SlAt.nil, SlAt.nil, (fun _ => rfl), (fun _ => rfl)⟩ ⟨SlAt.nil, SlAt.nil, (fun _ => rfl), (fun _ => rfl)⟩ ⟨by first | omega | exact Nat.le_of_ble_eq_true rfl | (simp only [List.length_nil, List.length_cons, List.length_append, List.length_replicate]; omega), by first | omega | exact Nat.le_of_ble_eq_true rfl | (simp only [List.length_nil, List.length_cons, List.length_append, List.length_replicate]; omega)⟩ ⟨by first | omega | exact Nat.le_of_ble_eq_true rfl | (simp only [List.length_nil, List.length_cons, List.length_append, List.length_replicate]; omega), by first | omega | exact Nat.le_of_ble_eq_true rfl | (simp only [List.length_nil, List.length_cons, List.length_append, List.length_replicate]; omega)⟩) ?_
   rintro _ w5111 ⟨rfl, hg5112⟩
   have hb5113 := low0 hb5105 hg5112
   refine wpo_not (b' := false) (congrArg Value.bool (decide_eq_true rfl)) rfl rfl ?_
   refine wpo_move (v := .bool false) rfl rfl ?_
   refine wpo_run rfl rfl rfl rfl ?_
   refine wpo_move (v := .bool false) rfl rfl ?_
   refine wpo_run rfl rfl rfl rfl ?_
   refine wpo_move (v := .bool false) rfl rfl ?_
   refine wpo_run rfl rfl rfl rfl ?_
   refine wpo_neqb (q := false) (by kernel_rfl) rfl rfl (by simp) rfl ?_
   refine wpo_pickf (v := .bool false) rfl rfl rfl rfl ?_
   refine wpo_nil ?_
   refine wpf_condf rfl rfl ?_
   refine wpf_skip ?_
   refine thn_n ?_
   refine wpf_seq_region ?_
   refine wpo_assign (v := .int .i64 1) rfl rfl ?_
   refine wpo_nil ?_
   refine wpf_seq_region ?_
   have k5114 := (hS5104.blk.grown0 hg5112)
   refine wpo_loadn (vs := [.int .i64 0, .int .i64 0, .int .i64 0, .int .i64 0, .int .i64 0, .slice none 0 0, .slice none 0 0, .int .i64 0]) rt_45 rfl rfl (k5114.rangeL 0 8 rfl) rfl ?_
   refine wpo_move (v := .int .i64 1) rfl rfl ?_
   refine wpo_call (vs := [.agg #[.int .i64 0, .int .i64 0, .int .i64 0, .int .i64 0, .int .i64 0, .slice none 0 0, .slice none 0 0, .int .i64 0], .int .i64 1]) gf_29 (args_cons rfl (args_cons rfl args_nil)) rfl (markThing_n 0 0 0 0 ⟨0, 0⟩ _) ?_
   rintro _ w5115 ⟨rfl, hg5116⟩
   have hb5117 := low0 hb5113 hg5116
   refine wpo_assign (v := .int .i64 1) rfl rfl ?_
   refine wpo_nil ?_
   refine wpf_seq_region ?_
   refine wpo_assign (v := .int .i64 1) rfl rfl ?_
   refine wpo_nil ?_
   refine wpf_seq_region ?_
   have k5118 := (k5114.grown0 hg5116)
   refine wpo_loadn (vs := [.int .i64 0, .int .i64 0, .int .i64 0, .int .i64 0, .int .i64 0, .slice none 0 0, .slice none 0 0, .int .i64 0]) rt_45 rfl rfl (k5118.rangeL 0 8 rfl) rfl ?_
   refine wpo_move (v := .int .i64 1) rfl rfl ?_
   refine wpo_call (vs := [.agg #[.int .i64 0, .int .i64 0, .int .i64 0, .int .i64 0, .int .i64 0, .slice none 0 0, .slice none 0 0, .int .i64 0], .int .i64 1]) gf_30 (args_cons rfl (args_cons rfl args_nil)) rfl (heldThing_n 0 0 0 0 ⟨0, 0⟩ _) ?_
   rintro _ w5119 ⟨rfl, hg5120⟩
   have hb5121 := low0 hb5117 hg5120
   refine wpo_assign (v := .int .i64 1) rfl rfl ?_
   refine wpo_nil ?_
   refine wpf_seq ?_
   refine wpf_seq_region ?_
   refine wpo_move (v := .int .i64 1) rfl rfl ?_
   refine wpo_lss (q := false) rfl rfl (by decide) rfl ?_
   refine wpo_nil ?_
   refine wpf_condf rfl rfl ?_
   refine wpf_skip ?_
   refine thn_n ?_
   refine wpf_seq ?_
   refine wpf_seq_region ?_
   refine wpo_move (v := .int .i64 1) rfl rfl ?_
   refine wpo_move (v := .int .i64 1) rfl rfl ?_
   refine wpo_neq (q := false) rfl rfl (by decide) rfl ?_
   refine wpo_nil ?_
   refine wpf_condf rfl rfl ?_
   refine wpf_skip ?_
   refine thn_n ?_
   refine wpf_seq_region ?_
   refine wpo_move (v := .int .i64 k) rfl rfl ?_
   have k5122 := (((((k5100.grown0 hN5099.grw).grown hS5104.grw (some_ne (by omega))).grown0 hg5112).grown0 hg5116).grown0 hg5120)
   refine wpo_loadn (vs := [.int .i64 l.s, .int .i64 l.v]) rt_50 rfl rfl (k5122.rangeL 0 2 rfl) rfl ?_
   refine wpo_call (vs := [.agg #[.int .i64 l.s, .int .i64 l.v]]) gf_27 (args_cons rfl args_nil) rfl (toLabel_c l _) ?_
   rintro _ w5123 ⟨rfl, hg5124⟩
   have hb5125 := low0 hb5121 hg5124
   refine wpo_move (v := .int .i64 to) rfl rfl ?_
   have k5126 := (k5122.grown0 hg5124)
   have k5127 := ((((k5110.grown0 hg5112).grown0 hg5116).grown0 hg5120).grown0 hg5124)
   have k5128 := ((k5118.grown0 hg5120).grown0 hg5124)
   refine wpo_call (vs := [.int .i64 k, .agg #[.int .i64 l.s, .int .i64 l.v], .int .i64 to]) gf_24 (args_cons rfl (args_cons rfl (args_cons rfl args_nil))) rfl (ThingNew_nf k to l h4742 h4959 _) ?_
   rintro _ w5129 ⟨rfl, hg5130⟩
   have hb5131 := low0 hb5125 hg5130
   refine wpo_move (v := .tuple #[.agg #[.int .i64 0, .int .i64 0, .int .i64 0, .int .i64 0, .int .i64 0, .slice none 0 0, .slice none 0 0, .int .i64 0], .bool false]) rfl rfl ?_
   refine wpo_extract (v := .agg #[.int .i64 0, .int .i64 0, .int .i64 0, .int .i64 0, .int .i64 0, .slice none 0 0, .slice none 0 0, .int .i64 0]) rfl rfl rfl ?_
   refine wpo_extract (v := .bool false) rfl rfl rfl ?_
   refine wpo_alloc (cs := #[.int .i64 0, .int .i64 0, .int .i64 0, .int .i64 0, .int .i64 0, .slice none 0 0, .slice none 0 0, .int .i64 0]) zt_45 rfl rfl ?_
   intro B5132 w5133 hN5134
   have hlB5132 := hN_ge hN5134 hb5131
   have k5135 := (k5126.grown0 hg5130)
   have lt_B5069_B5132 := hN_gtl hN5134 (k5135).lt
   have k5136 := (k5127.grown0 hg5130)
   have lt_B5080_B5132 := hN_gtl hN5134 (k5136).lt
   have k5137 := (k5128.grown0 hg5130)
   have lt_B5097_B5132 := hN_gtl hN5134 (k5137).lt
   have hb5138 := low0 hb5131 hN5134.grw
   refine wpo_storen (vs := [.int .i64 0, .int .i64 0, .int .i64 0, .int .i64 0, .int .i64 0, .slice none 0 0, .slice none 0 0, .int .i64 0]) (cs' := #[.int .i64 0, .int .i64 0, .int .i64 0, .int .i64 0, .int .i64 0, .slice none 0 0, .slice none 0 0, .int .i64 0]) rt_45 rfl rfl rfl (by simp [Value.oneCell']) hN5134.blk (Nat.le_of_ble_eq_true rfl) rfl ?_
   intro w5139 hS5140
   have hb5141 := low1 hb5138 hS5140.grw (by omega)
   refine wpo_assign (v := .bool false) rfl rfl ?_
   refine wpo_nil ?_
   refine wpf_seq ?_
   refine wpf_seq_region ?_
   refine wpo_loadn (vs := [.int .i64 0, .int .i64 0, .int .i64 0, .int .i64 0, .int .i64 0, .slice none 0 0, .slice none 0 0, .int .i64 0]) rt_45 rfl rfl (hS5140.blk.rangeL 0 8 rfl) rfl ?_
   have k5146 := ((k5136.grown0 hN5134.grw).grown hS5140.grw (some_ne (by omega)))
   refine wpo_loadn (vs := [.int .i64 0, .int .i64 0, .int .i64 0, .int .i64 0, .int .i64 0, .slice none 0 0, .slice none 0 0, .int .i64 0]) rt_45 rfl rfl (k5146.rangeL 0 8 rfl) rfl ?_
   refine wpo_call (vs := [.agg #[.int .i64 0, .int .i64 0, .int .i64 0, .int .i64 0, .int .i64 0, .slice none 0 0, .slice none 0 0, .int .i64 0], .agg #[.int .i64 0, .int .i64 0, .int .i64 0, .int .i64 0, .int .i64 0, .slice none 0 0, .slice none 0 0, .int .i64 0]]) gf_28 (args_cons rfl (args_cons rfl args_nil)) rfl (eqThing_c (⟨⟨0, ⟨0, 0⟩, 0, 0, [], [], 0⟩, none, 0, none, 0⟩ : MTh) (⟨⟨0, ⟨0, 0⟩, 0, 0, [], [], 0⟩, none, 0, none, 0⟩ : MTh) _ ⟨SlAt.nil, SlAt.nil, (fun _ => rfl), (fun _ => rfl)⟩ ⟨SlAt.nil, SlAt.nil, (fun _ => rfl), (fun _ => rfl)⟩ ⟨by first | omega | exact Nat.le_of_ble_eq_true rfl | (simp only [List.length_nil, List.length_cons, List.length_append, List.length_replicate]; omega), by first | omega | exact Nat.le_of_ble_eq_true rfl | (simp only [List.length_nil, List.length_cons, List.length_append, List.length_replicate]; omega)⟩ ⟨by first | omega | exact Nat.le_of_ble_eq_true rfl | (simp only [List.length_nil, List.length_cons, List.length_append, List.length_replicate]; omega), by first | omega | exact Nat.le_of_ble_eq_true rfl | (simp only [List.length_nil, List.length_cons, List.length_append, List.length_replicate]; omega)⟩) ?_
   rintro _ w5147 ⟨rfl, hg5148⟩
   have hb5149 := low0 hb5141 hg5148
   refine wpo_not (b' := false) (congrArg Value.bool (decide_eq_true rfl)) rfl rfl ?_
   refine wpo_move (v := .bool false) rfl rfl ?_
   refine wpo_run rfl rfl rfl rfl ?_
   refine wpo_move (v := .bool false) rfl rfl ?_
   refine wpo_run rfl rfl rfl rfl ?_
   refine wpo_move (v := .bool false) rfl rfl ?_
   refine wpo_run rfl rfl rfl rfl ?_
   refine wpo_neqb (q := false) (by kernel_rfl) rfl rfl (by simp) rfl ?_
   refine wpo_pickf (v := .bool false) rfl rfl rfl rfl ?_
   refine wpo_nil ?_
   refine wpf_condf rfl rfl ?_
   refine wpf_skip ?_
   refine thn_n ?_
   refine wpf_seq_region ?_
   refine wpo_assign (v := .int .i64 1) rfl rfl ?_
   refine wpo_nil ?_
   refine wpf_seq_region ?_
   have k5150 := (((k5137.grown0 hN5134.grw).grown hS5140.grw (some_ne (by omega))).grown0 hg5148)
   refine wpo_loadn (vs := [.int .i64 0, .int .i64 0, .int .i64 0, .int .i64 0, .int .i64 0, .slice none 0 0, .slice none 0 0, .int .i64 0]) rt_45 rfl rfl (k5150.rangeL 0 8 rfl) rfl ?_
   refine wpo_move (v := .int .i64 1) rfl rfl ?_
   refine wpo_call (vs := [.agg #[.int .i64 0, .int .i64 0, .int .i64 0, .int .i64 0, .int .i64 0, .slice none 0 0, .slice none 0 0, .int .i64 0], .int .i64 1]) gf_30 (args_cons rfl (args_cons rfl args_nil)) rfl (heldThing_n 0 0 0 0 ⟨0, 0⟩ _) ?_
   rintro _ w5151 ⟨rfl, hg5152⟩
   have hb5153 := low0 hb5149 hg5152
   refine wpo_assign (v := .int .i64 1) rfl rfl ?_
   refine wpo_nil ?_
   refine wpf_seq ?_
   refine wpf_seq_region ?_
   refine wpo_move (v := .int .i64 1) rfl rfl ?_
   refine wpo_lss (q := false) rfl rfl (by decide) rfl ?_
   refine wpo_nil ?_
   refine wpf_condf rfl rfl ?_
   refine wpf_skip ?_
   refine thn_n ?_
   refine wpf_seq ?_
   refine wpf_seq_region ?_
   refine wpo_move (v := .int .i64 1) rfl rfl ?_
   refine wpo_move (v := .int .i64 1) rfl rfl ?_
   refine wpo_neq (q := false) rfl rfl (by decide) rfl ?_
   refine wpo_nil ?_
   refine wpf_condf rfl rfl ?_
   refine wpf_skip ?_
   refine thn_n ?_
   refine wpf_seq_region ?_
   refine wpo_assign (v := .bool true) rfl rfl ?_
   refine wpo_nil ?_
   refine wpf_ret ?_
   refine ⟨.bool true, res1 rfl rfl, ?_, hb5153⟩
   rfl

end Go.Proofs.Ytlkmdoebmklbbaa
