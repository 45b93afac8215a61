/- Walks, printed by a program of mine (gen.py) out of the functions. -/
import Derived.Test.YtlkmdoebmklbbaaK
import Derived.Test.YtlkmdoebmklbbaaE
namespace Go.Proofs.Ytlkmdoebmklbbaa
open Go.RowKit Go.Dw
set_option maxRecDepth 100000
set_option maxHeartbeats 4000000
set_option linter.unusedSimpArgs false
set_option linter.unusedVariables false
theorem gf_102 : goFn Try.prog 102 = true := by kernel_rfl
theorem gf_114 : goFn Try.prog 114 = true := by kernel_rfl
theorem gf_23 : goFn Try.prog 23 = true := by kernel_rfl
theorem gf_82 : goFn Try.prog 82 = true := by kernel_rfl
theorem l71Thing_c (k to : Int) (p : Int) (hp : 0 ≤ p ∧ p ≤ 1000000000000) (lo R : Nat) (bs : List Int) (a : Option Addr) (c : Nat) (w : World) (hR : Blk w R 121 #[.slice a bs.length c, .int .i64 p]) (hlo : lo ≤ R) (hs : SlLt lo w a 1 (bs.map bcell)) (hb : ∀ b ∈ bs, 0 ≤ b ∧ b ≤ 255) (hn : bs.length ≤ 1048576) : CallsR Try.prog 114 #[.pointer (some ⟨R, 0, none⟩), .int .i64 k, .int .i64 to] w (fun v w' => ∃ (m : MTh) (p' : Int), v = .agg #[.int .i64 m.t.kind, .int .i64 m.t.lab.s, .int .i64 m.t.lab.v, .int .i64 m.t.ve, .int .i64 m.t.num, .slice m.sa m.t.slots.length m.sc, .slice m.qa m.t.queue.length m.qc, .int .i64 m.t.to] ∧ RowD 29 3 w.heap.size w' m ∧ p ≤ p' ∧ p' ≤ p + 12 ∧ Blk w' R 121 #[.slice a bs.length c, .int .i64 p'] ∧ w.grownBy w' (some R)) := by
 refine calls_of_wpf (n := 59) Try.func114 rfl Try.ntmps114 rfl ?_
 have hb0 := World.grownBy.refl w (some R)
 have hRlt := hR.lt
 refine wpf_seq_region ?_
 refine wpo_alloc (cs := #[.int .i64 0, .int .i64 0, .int .i64 0, .int .i64 0, .int .i64 0, .slice none 0 0, .slice none 0 0, .int .i64 0]) zt_45 rfl rfl ?_
 intro B9782 w9783 hN9784
 have hlB9782 := hN_ge hN9784 hb0
 have lt_R_B9782 := hN_gtl hN9784 (hR).lt
 have hb9785 := low0 hb0 hN9784.grw
 refine wpo_nil ?_
 refine wpf_seq_region ?_
 refine wpo_move (v := .int .i64 k) rfl rfl ?_
 refine wpo_move (v := .pointer (some ⟨R, 0, none⟩)) rfl rfl ?_
 have k9786 := (hR.grown0 hN9784.grw)
 refine wpo_call (vs := [.pointer (some ⟨R, 0, none⟩)]) gf_65 (args_cons rfl args_nil) rfl (l71Label_c p (by omega) _ R bs _ _ _ k9786 (by omega) (SlLt.low1 hs hb9785 hlo) (by first | exact hb | exact fun b h => hb b (List.mem_of_mem_take h)) (by first | omega | (rw [List.length_take]; omega))) ?_
 rintro _ w9797 ⟨l9787, p9788, rfl, hr9789, hr9790, hr9791, hr9792, hp9793, hp9794, kR9795, hg9796⟩
 have hb9798 := grown_trans hb9785 hg9796
 refine wpo_move (v := .int .i64 to) rfl rfl ?_
 rcases bcases ((decide (k = 2)) || (decide (k = 3))) with h9799 | h9799
 ·
  rcases bcases (newOk k l9787 to) with h9800 | h9800
  ·
   have k9801 := (hN9784.blk.grown hg9796 (some_ne (by omega)))
   have h9802 : thingOk (⟨k, l9787, 0, 0, zeros4, [], to⟩ : Th) = true := (newOk_y h9799).symm.trans h9800
   refine wpo_call (vs := [.int .i64 k, .agg #[.int .i64 l9787.s, .int .i64 l9787.v], .int .i64 to]) gf_23 (args_cons rfl (args_cons rfl (args_cons rfl args_nil))) rfl (sThingNew_yt k to l9787 h9799 h9800 _) ?_
   rintro _ w9803 ⟨B9805, cap9806, B9809, cap9810, rfl, hge9807, hO9808, hge9811, hO9812, ne_B9805_B9809, hg9804⟩
   have hb9813 := low0 hb9798 hg9804
   have hlB9805 := Nat.le_trans hb9798.size hge9807
   have lt_R_B9805 := Nat.lt_of_lt_of_le (kR9795).lt hge9807
   have lt_B9782_B9805 := Nat.lt_of_lt_of_le (k9801).lt hge9807
   have hlB9809 := Nat.le_trans hb9798.size hge9811
   have lt_R_B9809 := Nat.lt_of_lt_of_le (kR9795).lt hge9811
   have lt_B9782_B9809 := Nat.lt_of_lt_of_le (k9801).lt hge9811
   refine wpo_move (v := .tuple #[.agg #[.int .i64 k, .int .i64 l9787.s, .int .i64 l9787.v, .int .i64 0, .int .i64 0, .slice (some ⟨B9805, 0, none⟩) 4 cap9806, .slice (some ⟨B9809, 0, none⟩) 0 cap9810, .int .i64 to], .bool true]) rfl rfl ?_
   refine wpo_extract (v := .agg #[.int .i64 k, .int .i64 l9787.s, .int .i64 l9787.v, .int .i64 0, .int .i64 0, .slice (some ⟨B9805, 0, none⟩) 4 cap9806, .slice (some ⟨B9809, 0, none⟩) 0 cap9810, .int .i64 to]) rfl rfl rfl ?_
   refine wpo_extract (v := .bool true) rfl rfl rfl ?_
   refine wpo_alloc (cs := #[.int .i64 0, .int .i64 0, .int .i64 0, .int .i64 0, .int .i64 0, .slice none 0 0, .slice none 0 0, .int .i64 0]) zt_45 rfl rfl ?_
   intro B9814 w9815 hN9816
   have hlB9814 := hN_ge hN9816 hb9813
   have k9817 := (kR9795.grown0 hg9804)
   have lt_R_B9814 := hN_gtl hN9816 (k9817).lt
   have k9818 := (k9801.grown0 hg9804)
   have lt_B9782_B9814 := hN_gtl hN9816 (k9818).lt
   have lt_B9809_B9814 := hN_gtl hN9816 (hO9812).lt
   have lt_B9805_B9814 := hN_gtl hN9816 (hO9808).lt
   have hb9819 := low0 hb9813 hN9816.grw
   refine wpo_storen (vs := [.int .i64 k, .int .i64 l9787.s, .int .i64 l9787.v, .int .i64 0, .int .i64 0, .slice (some ⟨B9805, 0, none⟩) 4 cap9806, .slice (some ⟨B9809, 0, none⟩) 0 cap9810, .int .i64 to]) (cs' := #[.int .i64 k, .int .i64 l9787.s, .int .i64 l9787.v, .int .i64 0, .int .i64 0, .slice (some ⟨B9805, 0, none⟩) 4 cap9806, .slice (some ⟨B9809, 0, none⟩) 0 cap9810, .int .i64 to]) rt_45 rfl rfl rfl (by simp [Value.oneCell']) hN9816.blk (Nat.le_of_ble_eq_true rfl) rfl ?_
   intro w9820 hS9821
   have hb9822 := low1 hb9819 hS9821.grw (by omega)
   refine wpo_assign (v := .bool true) rfl rfl ?_
   refine wpo_nil ?_
   refine wpf_seq ?_
   refine wpf_seq_region ?_
   refine wpo_fieldAddr (o' := 0) fo_45_0 rfl rfl rfl ?_
   refine wpo_load1 (v := .int .i64 k) ot_3 rfl (hS9821.blk.cell rfl) rfl ?_
   refine wpo_eql (q := decide (k = 0)) rfl rfl rfl rfl ?_
   refine wpo_nil ?_
   refine wpf_cond rfl (fun h9823 => ?_) (fun h9823 => ?_)
   ·
    have h9824 := of_decide_eq_true h9823
    refine wpf_region ?_
    refine wpo_build (ps := []) (v := .agg #[.int .i64 0, .int .i64 0]) parts_nil (by kernel_rfl) rfl ?_
    have k9825 := ((k9817.grown0 hN9816.grw).grown hS9821.grw (some_ne (by omega)))
    have k9826 := ((k9818.grown0 hN9816.grw).grown hS9821.grw (some_ne (by omega)))
    have k9827 := ((hO9812.grown0 hN9816.grw).grown hS9821.grw (some_ne (by omega)))
    have k9828 := ((hO9808.grown0 hN9816.grw).grown hS9821.grw (some_ne (by omega)))
    have h9829 : thingOk (⟨1, ⟨0, 0⟩, 0, 0, [], [], 0⟩ : Th) = true := (newOk_n (by decide)).symm.trans (by decide)
    refine wpo_call (vs := [.int .i64 1, .agg #[.int .i64 0, .int .i64 0], .int .i64 0]) gf_23 (args_cons rfl (args_cons rfl (args_cons rfl args_nil))) rfl (sThingNew_nt 1 0 ⟨0, 0⟩ (by decide) (by decide) _) ?_
    rintro _ w9830 ⟨B9832, cap9833, B9836, cap9837, rfl, hge9834, hO9835, hge9838, hO9839, ne_B9832_B9836, hg9831⟩
    have hb9840 := low0 hb9822 hg9831
    have hlB9832 := Nat.le_trans hb9822.size hge9834
    have lt_R_B9832 := Nat.lt_of_lt_of_le (k9825).lt hge9834
    have lt_B9782_B9832 := Nat.lt_of_lt_of_le (k9826).lt hge9834
    have lt_B9809_B9832 := Nat.lt_of_lt_of_le (k9827).lt hge9834
    have lt_B9805_B9832 := Nat.lt_of_lt_of_le (k9828).lt hge9834
    have lt_B9814_B9832 := Nat.lt_of_lt_of_le (hS9821.blk).lt hge9834
    have hlB9836 := Nat.le_trans hb9822.size hge9838
    have lt_R_B9836 := Nat.lt_of_lt_of_le (k9825).lt hge9838
    have lt_B9782_B9836 := Nat.lt_of_lt_of_le (k9826).lt hge9838
    have lt_B9809_B9836 := Nat.lt_of_lt_of_le (k9827).lt hge9838
    have lt_B9805_B9836 := Nat.lt_of_lt_of_le (k9828).lt hge9838
    have lt_B9814_B9836 := Nat.lt_of_lt_of_le (hS9821.blk).lt hge9838
    refine wpo_move (v := .tuple #[.agg #[.int .i64 1, .int .i64 0, .int .i64 0, .int .i64 0, .int .i64 0, .slice (some ⟨B9832, 0, none⟩) 0 cap9833, .slice (some ⟨B9836, 0, none⟩) 0 cap9837, .int .i64 0], .bool true]) rfl rfl ?_
    refine wpo_extract (v := .agg #[.int .i64 1, .int .i64 0, .int .i64 0, .int .i64 0, .int .i64 0, .slice (some ⟨B9832, 0, none⟩) 0 cap9833, .slice (some ⟨B9836, 0, none⟩) 0 cap9837, .int .i64 0]) rfl rfl rfl ?_
    refine wpo_extract (v := .bool true) rfl rfl rfl ?_
    have k9841 := (hS9821.blk.grown0 hg9831)
    refine wpo_storen (vs := [.int .i64 1, .int .i64 0, .int .i64 0, .int .i64 0, .int .i64 0, .slice (some ⟨B9832, 0, none⟩) 0 cap9833, .slice (some ⟨B9836, 0, none⟩) 0 cap9837, .int .i64 0]) (cs' := #[.int .i64 1, .int .i64 0, .int .i64 0, .int .i64 0, .int .i64 0, .slice (some ⟨B9832, 0, none⟩) 0 cap9833, .slice (some ⟨B9836, 0, none⟩) 0 cap9837, .int .i64 0]) rt_45 rfl rfl rfl (by simp [Value.oneCell']) k9841 (Nat.le_of_ble_eq_true rfl) rfl ?_
    intro w9842 hS9843
    have hb9844 := low1 hb9840 hS9843.grw (by omega)
    refine wpo_nil ?_
    refine thn_n ?_
    refine wpf_seq ?_
    refine wpf_seq_region ?_
    refine wpo_fieldAddr (o' := 0) fo_45_0 rfl rfl rfl ?_
    refine wpo_load1 (v := .int .i64 1) ot_3 rfl (hS9843.blk.cell rfl) rfl ?_
    refine wpo_nil ?_
    refine wpf_block ?_
    refine wpf_seq_region ?_
    refine wpo_eql (q := true) rfl rfl (by decide) rfl ?_
    refine wpo_assign (v := .bool true) rfl rfl ?_
    refine wpo_nil ?_
    refine wpf_condt rfl rfl ?_
    refine wpf_seq_region ?_
    refine wpo_move (v := .pointer (some ⟨R, 0, none⟩)) rfl rfl ?_
    have k9845 := ((k9825.grown0 hg9831).grown hS9843.grw (some_ne (by omega)))
    refine wpo_call (vs := [.pointer (some ⟨R, 0, none⟩), .int .i64 20]) gf_60 (args_cons rfl (args_cons rfl args_nil)) rfl (pick_c p9788 20 (by omega) _ R bs _ _ _ k9845 (by omega) (SlLt.low1 hs hb9844 hlo) (by first | exact hb | exact fun b h => hb b (List.mem_of_mem_take h)) (by first | omega | (rw [List.length_take]; omega))) ?_
    rintro _ w9851 ⟨k9846, rfl, hk9847, hk9848, kR9849, hg9850⟩
    have hb9852 := grown_trans hb9844 hg9850
    refine wpo_fieldAddr (o' := 4) fo_45_3 rfl rfl rfl ?_
    have k9853 := (hS9843.blk.grown hg9850 (some_ne (by omega)))
    refine wpo_store1 (v := .int .i64 k9846) (cs' := #[.int .i64 1, .int .i64 0, .int .i64 0, .int .i64 0, .int .i64 k9846, .slice (some ⟨B9832, 0, none⟩) 0 cap9833, .slice (some ⟨B9836, 0, none⟩) 0 cap9837, .int .i64 0]) ot_3 rfl rfl rfl k9853 (Nat.le_of_ble_eq_true rfl) rfl ?_
    intro w9854 hS9855
    have hb9856 := low1 hb9852 hS9855.grw (by omega)
    refine wpo_nil ?_
    refine wpf_region ?_
    refine wpo_move (v := .pointer (some ⟨R, 0, none⟩)) rfl rfl ?_
    have k9857 := (kR9849.grown hS9855.grw (some_ne (by omega)))
    refine wpo_call (vs := [.pointer (some ⟨R, 0, none⟩), .int .i64 3]) gf_60 (args_cons rfl (args_cons rfl args_nil)) rfl (pick_c (p9788 + 1) 3 (by omega) _ R bs _ _ _ k9857 (by omega) (SlLt.low1 hs hb9856 hlo) (by first | exact hb | exact fun b h => hb b (List.mem_of_mem_take h)) (by first | omega | (rw [List.length_take]; omega))) ?_
    rintro _ w9863 ⟨k9858, rfl, hk9859, hk9860, kR9861, hg9862⟩
    have hb9864 := grown_trans hb9856 hg9862
    refine wpo_quo (c := k9858 / 2) rfl rfl (by omega) (by omega) (by omega) rfl rfl ?_
    refine wpo_fieldAddr (o' := 3) fo_45_2 rfl rfl rfl ?_
    have k9865 := (hS9855.blk.grown hg9862 (some_ne (by omega)))
    refine wpo_store1 (v := .int .i64 (k9858 / 2)) (cs' := #[.int .i64 1, .int .i64 0, .int .i64 0, .int .i64 (k9858 / 2), .int .i64 k9846, .slice (some ⟨B9832, 0, none⟩) 0 cap9833, .slice (some ⟨B9836, 0, none⟩) 0 cap9837, .int .i64 0]) ot_3 rfl rfl rfl k9865 (Nat.le_of_ble_eq_true rfl) rfl ?_
    intro w9866 hS9867
    have hb9868 := low1 hb9864 hS9867.grw (by omega)
    refine wpo_nil ?_
    refine blk_n ?_
    refine thn_n ?_
    refine wpf_seq_region ?_
    refine wpo_loadn (vs := [.int .i64 1, .int .i64 0, .int .i64 0, .int .i64 (k9858 / 2), .int .i64 k9846, .slice (some ⟨B9832, 0, none⟩) 0 cap9833, .slice (some ⟨B9836, 0, none⟩) 0 cap9837, .int .i64 0]) rt_45 rfl rfl (hS9867.blk.rangeL 0 8 rfl) rfl ?_
    have k9869 := ((((((k9826.grown0 hg9831).grown hS9843.grw (some_ne (by omega))).grown hg9850 (some_ne (by omega))).grown hS9855.grw (some_ne (by omega))).grown hg9862 (some_ne (by omega))).grown hS9867.grw (some_ne (by omega)))
    refine wpo_storen (vs := [.int .i64 1, .int .i64 0, .int .i64 0, .int .i64 (k9858 / 2), .int .i64 k9846, .slice (some ⟨B9832, 0, none⟩) 0 cap9833, .slice (some ⟨B9836, 0, none⟩) 0 cap9837, .int .i64 0]) (cs' := #[.int .i64 1, .int .i64 0, .int .i64 0, .int .i64 (k9858 / 2), .int .i64 k9846, .slice (some ⟨B9832, 0, none⟩) 0 cap9833, .slice (some ⟨B9836, 0, none⟩) 0 cap9837, .int .i64 0]) rt_45 rfl rfl rfl (by simp [Value.oneCell']) k9869 (Nat.le_of_ble_eq_true rfl) rfl ?_
    intro w9870 hS9871
    have hb9872 := low1 hb9868 hS9871.grw (by omega)
    refine wpo_nil ?_
    refine wpf_ret ?_
    have k9873 := ((((((hO9839.grown hS9843.grw (some_ne (by omega))).grown hg9850 (some_ne (by omega))).grown hS9855.grw (some_ne (by omega))).grown hg9862 (some_ne (by omega))).grown hS9867.grw (some_ne (by omega))).grown hS9871.grw (some_ne (by omega)))
    have k9874 := ((((((hO9835.grown hS9843.grw (some_ne (by omega))).grown hg9850 (some_ne (by omega))).grown hS9855.grw (some_ne (by omega))).grown hg9862 (some_ne (by omega))).grown hS9867.grw (some_ne (by omega))).grown hS9871.grw (some_ne (by omega)))
    have k9875 := ((kR9861.grown hS9867.grw (some_ne (by omega))).grown hS9871.grw (some_ne (by omega)))
    refine ⟨.agg #[.int .i64 1, .int .i64 0, .int .i64 0, .int .i64 (k9858 / 2), .int .i64 k9846, .slice (some ⟨B9832, 0, none⟩) 0 cap9833, .slice (some ⟨B9836, 0, none⟩) 0 cap9837, .int .i64 0], resC rfl (resCell_mk (vs := [.int .i64 1, .int .i64 0, .int .i64 0, .int .i64 (k9858 / 2), .int .i64 k9846, .slice (some ⟨B9832, 0, none⟩) 0 cap9833, .slice (some ⟨B9836, 0, none⟩) 0 cap9837, .int .i64 0]) rt_45 rfl rfl (hS9871.blk.rangeL 0 8 rfl)), ⟨⟨1, ⟨0, 0⟩, k9858 / 2, k9846, ([] : List Rt), ([] : List Int), 0⟩, some ⟨B9832, 0, none⟩, cap9833, some ⟨B9836, 0, none⟩, cap9837⟩, (p9788 + 1 + 1), rfl, ⟨OwnN.of k9873 hlB9836, ⟨([] : List Rt), OwnN.of k9874 hlB9832, rfl, ?_⟩, ?_, ?_, ⟨show (0 : Int) ≤ k9858 / 2 by omega, show k9858 / 2 ≤ (1 : Int) by omega⟩⟩, by omega, by omega, k9875, hb9872⟩
    ·
     intro x hx; first | (simp [zeros4] at hx; subst hx; exact ⟨by decide, by decide, by decide, by decide⟩) | simp at hx
    ·
     first | exact Nat.le_of_ble_eq_true rfl | omega | (simp only [List.length_nil]; omega)
    ·
     exact Nat.le_of_ble_eq_true rfl
   ·
    have h9876 := of_decide_eq_false h9823
    refine wpf_skip ?_
    refine thn_n ?_
    refine wpf_seq ?_
    refine wpf_seq_region ?_
    refine wpo_fieldAddr (o' := 0) fo_45_0 rfl rfl rfl ?_
    refine wpo_load1 (v := .int .i64 k) ot_3 rfl (hS9821.blk.cell rfl) rfl ?_
    refine wpo_nil ?_
    refine wpf_block ?_
    refine wpf_seq_region ?_
    refine wpo_eql (q := decide (k = 1)) rfl rfl rfl rfl ?_
    refine wpo_assign (v := .bool (decide (k = 1))) rfl rfl ?_
    refine wpo_nil ?_
    refine wpf_cond rfl (fun h9877 => ?_) (fun h9877 => ?_)
    ·
     have h9878 := of_decide_eq_true h9877
     refine wpf_seq_region ?_
     refine wpo_move (v := .pointer (some ⟨R, 0, none⟩)) rfl rfl ?_
     have k9879 := ((k9817.grown0 hN9816.grw).grown hS9821.grw (some_ne (by omega)))
     refine wpo_call (vs := [.pointer (some ⟨R, 0, none⟩), .int .i64 20]) gf_60 (args_cons rfl (args_cons rfl args_nil)) rfl (pick_c p9788 20 (by omega) _ R bs _ _ _ k9879 (by omega) (SlLt.low1 hs hb9822 hlo) (by first | exact hb | exact fun b h => hb b (List.mem_of_mem_take h)) (by first | omega | (rw [List.length_take]; omega))) ?_
     rintro _ w9885 ⟨k9880, rfl, hk9881, hk9882, kR9883, hg9884⟩
     have hb9886 := grown_trans hb9822 hg9884
     refine wpo_fieldAddr (o' := 4) fo_45_3 rfl rfl rfl ?_
     have k9887 := (hS9821.blk.grown hg9884 (some_ne (by omega)))
     refine wpo_store1 (v := .int .i64 k9880) (cs' := #[.int .i64 k, .int .i64 l9787.s, .int .i64 l9787.v, .int .i64 0, .int .i64 k9880, .slice (some ⟨B9805, 0, none⟩) 4 cap9806, .slice (some ⟨B9809, 0, none⟩) 0 cap9810, .int .i64 to]) ot_3 rfl rfl rfl k9887 (Nat.le_of_ble_eq_true rfl) rfl ?_
     intro w9888 hS9889
     have hb9890 := low1 hb9886 hS9889.grw (by omega)
     refine wpo_nil ?_
     refine wpf_region ?_
     refine wpo_move (v := .pointer (some ⟨R, 0, none⟩)) rfl rfl ?_
     have k9891 := (kR9883.grown hS9889.grw (some_ne (by omega)))
     refine wpo_call (vs := [.pointer (some ⟨R, 0, none⟩), .int .i64 3]) gf_60 (args_cons rfl (args_cons rfl args_nil)) rfl (pick_c (p9788 + 1) 3 (by omega) _ R bs _ _ _ k9891 (by omega) (SlLt.low1 hs hb9890 hlo) (by first | exact hb | exact fun b h => hb b (List.mem_of_mem_take h)) (by first | omega | (rw [List.length_take]; omega))) ?_
     rintro _ w9897 ⟨k9892, rfl, hk9893, hk9894, kR9895, hg9896⟩
     have hb9898 := grown_trans hb9890 hg9896
     refine wpo_quo (c := k9892 / 2) rfl rfl (by omega) (by omega) (by omega) rfl rfl ?_
     refine wpo_fieldAddr (o' := 3) fo_45_2 rfl rfl rfl ?_
     have k9899 := (hS9889.blk.grown hg9896 (some_ne (by omega)))
     refine wpo_store1 (v := .int .i64 (k9892 / 2)) (cs' := #[.int .i64 k, .int .i64 l9787.s, .int .i64 l9787.v, .int .i64 (k9892 / 2), .int .i64 k9880, .slice (some ⟨B9805, 0, none⟩) 4 cap9806, .slice (some ⟨B9809, 0, none⟩) 0 cap9810, .int .i64 to]) ot_3 rfl rfl rfl k9899 (Nat.le_of_ble_eq_true rfl) rfl ?_
     intro w9900 hS9901
     have hb9902 := low1 hb9898 hS9901.grw (by omega)
     refine wpo_nil ?_
     refine blk_n ?_
     refine thn_n ?_
     refine wpf_seq_region ?_
     refine wpo_loadn (vs := [.int .i64 k, .int .i64 l9787.s, .int .i64 l9787.v, .int .i64 (k9892 / 2), .int .i64 k9880, .slice (some ⟨B9805, 0, none⟩) 4 cap9806, .slice (some ⟨B9809, 0, none⟩) 0 cap9810, .int .i64 to]) rt_45 rfl rfl (hS9901.blk.rangeL 0 8 rfl) rfl ?_
     have k9903 := ((((((k9818.grown0 hN9816.grw).grown hS9821.grw (some_ne (by omega))).grown hg9884 (some_ne (by omega))).grown hS9889.grw (some_ne (by omega))).grown hg9896 (some_ne (by omega))).grown hS9901.grw (some_ne (by omega)))
     refine wpo_storen (vs := [.int .i64 k, .int .i64 l9787.s, .int .i64 l9787.v, .int .i64 (k9892 / 2), .int .i64 k9880, .slice (some ⟨B9805, 0, none⟩) 4 cap9806, .slice (some ⟨B9809, 0, none⟩) 0 cap9810, .int .i64 to]) (cs' := #[.int .i64 k, .int .i64 l9787.s, .int .i64 l9787.v, .int .i64 (k9892 / 2), .int .i64 k9880, .slice (some ⟨B9805, 0, none⟩) 4 cap9806, .slice (some ⟨B9809, 0, none⟩) 0 cap9810, .int .i64 to]) rt_45 rfl rfl rfl (by simp [Value.oneCell']) k9903 (Nat.le_of_ble_eq_true rfl) rfl ?_
     intro w9904 hS9905
     have hb9906 := low1 hb9902 hS9905.grw (by omega)
     refine wpo_nil ?_
     refine wpf_ret ?_
     have k9907 := (((((((hO9812.grown0 hN9816.grw).grown hS9821.grw (some_ne (by omega))).grown hg9884 (some_ne (by omega))).grown hS9889.grw (some_ne (by omega))).grown hg9896 (some_ne (by omega))).grown hS9901.grw (some_ne (by omega))).grown hS9905.grw (some_ne (by omega)))
     have k9908 := (((((((hO9808.grown0 hN9816.grw).grown hS9821.grw (some_ne (by omega))).grown hg9884 (some_ne (by omega))).grown hS9889.grw (some_ne (by omega))).grown hg9896 (some_ne (by omega))).grown hS9901.grw (some_ne (by omega))).grown hS9905.grw (some_ne (by omega)))
     have k9909 := ((kR9895.grown hS9901.grw (some_ne (by omega))).grown hS9905.grw (some_ne (by omega)))
     refine ⟨.agg #[.int .i64 k, .int .i64 l9787.s, .int .i64 l9787.v, .int .i64 (k9892 / 2), .int .i64 k9880, .slice (some ⟨B9805, 0, none⟩) 4 cap9806, .slice (some ⟨B9809, 0, none⟩) 0 cap9810, .int .i64 to], resC rfl (resCell_mk (vs := [.int .i64 k, .int .i64 l9787.s, .int .i64 l9787.v, .int .i64 (k9892 / 2), .int .i64 k9880, .slice (some ⟨B9805, 0, none⟩) 4 cap9806, .slice (some ⟨B9809, 0, none⟩) 0 cap9810, .int .i64 to]) rt_45 rfl rfl (hS9905.blk.rangeL 0 8 rfl)), ⟨⟨k, l9787, k9892 / 2, k9880, zeros4, ([] : List Int), to⟩, some ⟨B9805, 0, none⟩, cap9806, some ⟨B9809, 0, none⟩, cap9810⟩, (p9788 + 1 + 1), rfl, ⟨OwnN.of k9907 hlB9809, ⟨zeros4, OwnN.of k9908 hlB9805, rfl, ?_⟩, ?_, ?_, ⟨show (0 : Int) ≤ k9892 / 2 by omega, show k9892 / 2 ≤ (1 : Int) by omega⟩⟩, by omega, by omega, k9909, hb9906⟩
     ·
      intro x hx; first | (simp [zeros4] at hx; subst hx; exact ⟨by decide, by decide, by decide, by decide⟩) | simp at hx
     ·
      first | exact Nat.le_of_ble_eq_true rfl | omega | (simp only [List.length_nil]; omega)
     ·
      exact Nat.le_of_ble_eq_true rfl
    ·
     have h9910 := of_decide_eq_false h9877
     refine wpf_seq_region ?_
     refine wpo_eql (q := decide (k = 4)) rfl rfl rfl rfl ?_
     refine wpo_assign (v := .bool (decide (k = 4))) rfl rfl ?_
     refine wpo_nil ?_
     refine wpf_cond rfl (fun h9911 => ?_) (fun h9911 => ?_)
     ·
      have h9912 := of_decide_eq_true h9911
      refine wpf_seq_region ?_
      refine wpo_move (v := .pointer (some ⟨R, 0, none⟩)) rfl rfl ?_
      have k9913 := ((k9817.grown0 hN9816.grw).grown hS9821.grw (some_ne (by omega)))
      refine wpo_call (vs := [.pointer (some ⟨R, 0, none⟩), .int .i64 4]) gf_60 (args_cons rfl (args_cons rfl args_nil)) rfl (pick_c p9788 4 (by omega) _ R bs _ _ _ k9913 (by omega) (SlLt.low1 hs hb9822 hlo) (by first | exact hb | exact fun b h => hb b (List.mem_of_mem_take h)) (by first | omega | (rw [List.length_take]; omega))) ?_
      rintro _ w9919 ⟨k9914, rfl, hk9915, hk9916, kR9917, hg9918⟩
      have hb9920 := grown_trans hb9822 hg9918
      refine wpo_assign (v := .int .i64 k9914) rfl rfl ?_
      refine wpo_nil ?_
      refine wpf_block ?_
      have k9921 := (((hO9812.grown0 hN9816.grw).grown hS9821.grw (some_ne (by omega))).grown hg9918 (some_ne (by omega)))
      have k9922 := (((k9818.grown0 hN9816.grw).grown hS9821.grw (some_ne (by omega))).grown hg9918 (some_ne (by omega)))
      have k9923 := (((hO9808.grown0 hN9816.grw).grown hS9821.grw (some_ne (by omega))).grown hg9918 (some_ne (by omega)))
      have k9924 := (hS9821.blk.grown hg9918 (some_ne (by omega)))
      refine wpf_loopN (fun mm f' w' => ∃ (n : Int) (p1 : Int) (Bq : Nat) (cq : Nat) (ys : List Int), mm = n.toNat ∧ (0 ≤ n ∧ n ≤ 3) ∧ (p9788 + 1 ≤ p1 ∧ p1 ≤ (p9788 + 1) + 3 - n) ∧ (ys.length : Int) ≤ 3 - n ∧ Dw.Own w' Bq 3 1 cq ys.length (ys.flatMap icell) ∧ w.heap.size ≤ Bq ∧ R ≠ Bq ∧ B9782 ≠ Bq ∧ B9805 ≠ Bq ∧ B9814 ≠ Bq ∧ f' 9 = .int .i64 n ∧ f' 0 = .pointer (some ⟨R, 0, none⟩) ∧ f' 6 = .pointer (some ⟨B9782, 0, none⟩) ∧ f' 7 = .pointer (some ⟨B9814, 0, none⟩) ∧ w.grownBy w' (some R) ∧ Blk w' B9782 45 #[.int .i64 0, .int .i64 0, .int .i64 0, .int .i64 0, .int .i64 0, .slice none 0 0, .slice none 0 0, .int .i64 0] ∧ Dw.Own w' B9805 29 5 cap9806 zeros4.length (zeros4.flatMap Rt.cells) ∧ Blk w' B9814 45 #[.int .i64 k, .int .i64 l9787.s, .int .i64 l9787.v, .int .i64 0, .int .i64 0, .slice (some ⟨B9805, 0, none⟩) 4 cap9806, .slice (some ⟨Bq, 0, none⟩) ys.length cq, .int .i64 to] ∧ Blk w' R 121 #[.slice a bs.length c, .int .i64 p1]) (k9914.toNat) ⟨k9914, (p9788 + 1), B9809, cap9810, ([] : List Int), rfl, (by omega), (by omega), (by simp only [List.length_nil]; omega), k9921, hlB9809, (by omega), (by omega), (by omega), (by omega), rfl, rfl, rfl, rfl, hb9920, k9922, k9923, k9924, kR9917⟩ ?_
      rintro mm f9925 w9926 ⟨n, p1, Bq, cq, ys, hm9928, hnn, hpp, hyl, hOwn, hlBq, hne0, hne1, hne2, hne3, e9929, e9930, e9931, e9932, hb9927, k9933, k9934, k9935, k9936⟩
      refine wpf_seq ?_
      refine wpf_seq_region ?_
      refine wpo_move (v := .int .i64 n) e9929 rfl ?_
      refine wpo_gtr (q := decide (0 < n)) rfl rfl rfl rfl ?_
      refine wpo_nil ?_
      refine wpf_cond rfl (fun h9937 => ?_) (fun h9937 => ?_)
      ·
       have h9938 := of_decide_eq_true h9937
       refine wpf_skip ?_
       refine thn_n ?_
       refine wpf_seq ?_
       refine wpf_block ?_
       refine wpf_drawI (m := 5) [[], [0], [], [2], [2, 3], [0, 1, 2, 3, 4], [0, 1, 2, 3, 4, 5], [0, 1, 2, 3, 4, 5, 6]] (fun S F w' => ∃ (k10028 : Int) (B10035 : Nat), w9926.grownBy w' (some R) ∧ F 0 = .pointer (some ⟨R, 0, none⟩) ∧ F 6 = .pointer (some ⟨B9782, 0, none⟩) ∧ F 7 = .pointer (some ⟨B9814, 0, none⟩) ∧ F 9 = .int .i64 n ∧ (S 3 = false → Blk w' R 121 #[.slice a bs.length c, .int .i64 p1]) ∧ (S 0 = true → F 45 = .pointer (some ⟨B9814, 6, none⟩)) ∧ (S 1 = true → F 46 = .slice (some ⟨Bq, 0, none⟩) ys.length cq) ∧ (S 2 = true → F 47 = .pointer (some ⟨R, 0, none⟩)) ∧ (S 3 = true → F 48 = .int .i64 k10028 ∧ 0 ≤ k10028 ∧ (k10028 < 20 ∨ k10028 = 0) ∧ Blk w' R 121 #[.slice a bs.length c, .int .i64 (p1 + 1)]) ∧ (S 4 = true → F 49 = .slice (some ⟨B10035, 0, none⟩) 1 1 ∧ w.heap.size ≤ B10035 ∧ Blk w' B10035 3 (([k10028] : List Int).flatMap icell).toArray ∧ B9782 < B10035 ∧ B9805 < B10035 ∧ B9814 < B10035 ∧ R < B10035 ∧ Bq < B10035 ∧ w9926.heap.size ≤ B10035)) mixed_ (by kernel_rfl) ⟨0, 0, grown_drew _, e9930, e9931, e9932, e9929, fun _ => (k9936).grown0 (grown_drew _), fun h => not_begun h, fun h => not_begun h, fun h => not_begun h, fun h => not_begun h, fun h => not_begun h⟩ ?_ ?_
       ·
        refine preL_cons (fun S F w10043 hS hbef hcl hI => ?_) ?_
        ·
         obtain ⟨k10028, B10035, hi10044, e10045, e10046, e10047, e10048, c_old_R, c_0, c_1, c_2, c_3, c_4⟩ := hI
         have hb10049 := grown_trans hb9927 hi10044
         refine wpo_fieldAddr (o' := 6) fo_45_5 e10047 rfl rfl ?_
         exact wpo_nil ⟨k10028, B10035, hi10044, e10045, e10046, e10047, e10048, fun h => c_old_R h, fun _ => rfl, fun h => undone 1 hS hcl rfl h, c_2, c_3, c_4⟩
        refine preL_cons (fun S F w10050 hS hbef hcl hI => ?_) ?_
        ·
         obtain ⟨k10028, B10035, hi10051, e10052, e10053, e10054, e10055, c_old_R, c_0, c_1, c_2, c_3, c_4⟩ := hI
         have hb10056 := grown_trans hb9927 hi10051
         obtain e10057 := c_0 (ready_of 0 hbef rfl)
         have k10058 := (k9935.grown hi10051 (some_ne (by omega)))
         refine wpo_load1 (v := .slice (some ⟨Bq, 0, none⟩) ys.length cq) ot_43 e10057 (k10058.cell rfl) rfl ?_
         exact wpo_nil ⟨k10028, B10035, hi10051, e10052, e10053, e10054, e10055, fun h => c_old_R h, c_0, fun _ => rfl, c_2, c_3, c_4⟩
        refine preL_cons (fun S F w10059 hS hbef hcl hI => ?_) ?_
        ·
         obtain ⟨k10028, B10035, hi10060, e10061, e10062, e10063, e10064, c_old_R, c_0, c_1, c_2, c_3, c_4⟩ := hI
         have hb10065 := grown_trans hb9927 hi10060
         refine wpo_move (v := .pointer (some ⟨R, 0, none⟩)) e10061 rfl ?_
         exact wpo_nil ⟨k10028, B10035, hi10060, e10061, e10062, e10063, e10064, fun h => c_old_R h, c_0, c_1, fun _ => rfl, fun h => undone 3 hS hcl rfl h, fun h => undone 4 hS hcl rfl h⟩
        refine preL_cons (fun S F w10066 hS hbef hcl hI => ?_) ?_
        ·
         obtain ⟨k10028, B10035, hi10067, e10068, e10069, e10070, e10071, c_old_R, c_0, c_1, c_2, c_3, c_4⟩ := hI
         have hb10072 := grown_trans hb9927 hi10067
         obtain e10073 := c_2 (ready_of 2 hbef rfl)
         refine wpo_call (vs := [.pointer (some ⟨R, 0, none⟩), .int .i64 20]) gf_60 (args_cons e10073 (args_cons rfl args_nil)) rfl (pick_c p1 20 (by omega) _ R bs _ _ _ (c_old_R hS) (by omega) (SlLt.low1 hs hb10072 hlo) (by first | exact hb | exact fun b h => hb b (List.mem_of_mem_take h)) (by first | omega | (rw [List.length_take]; omega))) ?_
         rintro _ w10079 ⟨k10074, rfl, hk10075, hk10076, kR10077, hg10078⟩
         have hb10080 := grown_trans hb10072 hg10078
         exact wpo_nil ⟨k10074, B10035, (grown_trans hi10067 hg10078), e10068, e10069, e10070, e10071, fun h => not_open h, c_0, c_1, c_2, fun _ => ⟨rfl, hk10075, hk10076, kR10077⟩, fun h => undone 4 hS hcl rfl h⟩
        refine preL_cons (fun S F w10081 hS hbef hcl hI => ?_) ?_
        ·
         obtain ⟨k10028, B10035, hi10082, e10083, e10084, e10085, e10086, c_old_R, c_0, c_1, c_2, c_3, c_4⟩ := hI
         have hb10087 := grown_trans hb9927 hi10082
         obtain e10088 := c_2 (ready_of 2 hbef rfl)
         obtain ⟨e10089, hk10029, hk10030, ks3_R⟩ := c_3 (ready_of 3 hbef rfl)
         refine wpo_buildSlice (ps := [(0, .int .i64 k10028)]) (e := 3) (cs := (([k10028] : List Int).flatMap icell).toArray) (parts_cons e10089 parts_nil) (fun _ => by kernel_rfl) rfl ?_
         intro B10090 w10091 hN10092
         have hlB10090 := hN_ge hN10092 hb10087
         have k10093 := (k9933.grown hi10082 (some_ne (by omega)))
         have lt_B9782_B10090 := hN_gtl hN10092 (k10093).lt
         have k10094 := (k9934.grown hi10082 (some_ne (by omega)))
         have lt_B9805_B10090 := hN_gtl hN10092 (k10094).lt
         have k10095 := (k9935.grown hi10082 (some_ne (by omega)))
         have lt_B9814_B10090 := hN_gtl hN10092 (k10095).lt
         have k10096 := (hOwn.grown hi10082 (some_ne (by omega)))
         have lt_Bq_B10090 := hN_gtl hN10092 (k10096).lt
         have lt_R_B10090 := hN_gtl hN10092 (ks3_R).lt
         have hb10097 := low0 hb10087 hN10092.grw
         exact wpo_nil ⟨k10028, B10090, (low0 hi10082 hN10092.grw), e10083, e10084, e10085, e10086, fun hn => not_open ((ready_of 3 hbef rfl).symm.trans hn), c_0, c_1, c_2, fun h => let ⟨y10098, y10099, y10100, y10101⟩ := c_3 h; ⟨y10098, y10099, y10100, (y10101).grown0 hN10092.grw⟩, fun _ => ⟨rfl, hlB10090, hN10092.blk, lt_B9782_B10090, lt_B9805_B10090, lt_B9814_B10090, (by omega), lt_Bq_B10090, (Nat.le_trans hi10082.size (Nat.le_of_eq hN10092.eq.symm))⟩⟩
        exact preL_nil
       ·
        intro S F w10102 hall hI
        obtain ⟨k10028, B10035, hi10103, e10104, e10105, e10106, e10107, c_old_R, c_0, c_1, c_2, c_3, c_4⟩ := hI
        have hb10108 := grown_trans hb9927 hi10103
        obtain e10109 := c_0 (hall 0 (by decide))
        obtain e10110 := c_1 (hall 1 (by decide))
        obtain e10111 := c_2 (hall 2 (by decide))
        obtain ⟨e10112, hk10029, hk10030, ks3_R⟩ := c_3 (hall 3 (by decide))
        obtain ⟨e10113, hlB10035, kb_B10035, lt_B9782_B10035, lt_B9805_B10035, lt_B9814_B10035, lt_R_B10035, lt_Bq_B10035, hk_B10035⟩ := c_4 (hall 4 (by decide))
        have k10114 := (hOwn.grown hi10103 (some_ne (by omega)))
        have k10115 := (k9933.grown hi10103 (some_ne (by omega)))
        have k10116 := (k9934.grown hi10103 (some_ne (by omega)))
        have k10117 := (k9935.grown hi10103 (some_ne (by omega)))
        refine wpo_append (g := icell) (ys := ys) (zs := ([k10028] : List Int)) mk_43 rfl wide_int (by omega) onec_int e10110 e10113 k10114 (rows_sl wide_int kb_B10035) (by simp only [List.length_cons, List.length_nil]; omega) (by omega) rfl ?_
        intro B10118 cap10119 w10120 hO10121 hg10122 hor10123
        have hlB10118 : w.heap.size ≤ B10118 := by rcases hor10123 with h | h; (rw [h]; exact hlBq); (rw [h]; exact hb10108.size)
        have ne_B9782_B10118 : B9782 ≠ B10118 := by have h := (k10115).lt; omega
        have ne_B9805_B10118 : B9805 ≠ B10118 := by have h := (k10116).lt; omega
        have ne_B9814_B10118 : B9814 ≠ B10118 := by have h := (k10117).lt; omega
        have ne_R_B10118 : R ≠ B10118 := by have h := (ks3_R).lt; omega
        have ne_B10035_B10118 : B10035 ≠ B10118 := by have h := (kb_B10035).lt; omega
        have hb10124 := low1 hb10108 hg10122 (by omega)
        refine wpo_fieldAddr (o' := 6) fo_45_5 e10106 rfl rfl ?_
        have k10125 := (k10117.grown hg10122 (some_ne (by omega)))
        refine wpo_store1 (v := .slice (some ⟨B10118, 0, none⟩) ((ys ++ ([k10028] : List Int)).length) cap10119) (cs' := #[.int .i64 k, .int .i64 l9787.s, .int .i64 l9787.v, .int .i64 0, .int .i64 0, .slice (some ⟨B9805, 0, none⟩) 4 cap9806, .slice (some ⟨B10118, 0, none⟩) ((ys ++ ([k10028] : List Int)).length) cap10119, .int .i64 to]) ot_43 rfl rfl rfl k10125 (Nat.le_of_ble_eq_true rfl) rfl ?_
        intro w10126 hS10127
        have hb10128 := low1 hb10124 hS10127.grw (by omega)
        refine wpo_nil ?_
        refine blk_n ?_
        refine thn_n ?_
        refine wpf_region ?_
        refine wpo_move (v := .int .i64 n) e10107 rfl ?_
        refine wpo_sub (c := n - 1) rfl rfl (by omega) (by omega) (by omega) rfl ?_
        refine wpo_assign (v := .int .i64 (n - 1)) rfl rfl ?_
        refine wpo_nil ?_
        refine thn_n ?_
        have k10129 := (hO10121.grown hS10127.grw (some_ne (by omega)))
        have k10130 := ((k10115.grown hg10122 (some_ne (by omega))).grown hS10127.grw (some_ne (by omega)))
        have k10131 := ((k10116.grown hg10122 (some_ne (by omega))).grown hS10127.grw (some_ne (by omega)))
        have k10132 := ((ks3_R.grown hg10122 (some_ne (by omega))).grown hS10127.grw (some_ne (by omega)))
        exact ⟨(n - 1).toNat, by omega, (n - 1), (p1 + 1), B10118, cap10119, (ys ++ ([k10028] : List Int)), rfl, (by omega), (by omega), (by simp only [List.length_append, List.length_cons, List.length_nil]; omega), k10129, hlB10118, (by omega), (by omega), (by omega), (by omega), rfl, e10104, e10105, e10106, hb10128, k10130, k10131, hS10127.blk, k10132⟩
      ·
       have h10133 := of_decide_eq_false h9937
       refine wpf_exit ?_
       refine thn_e ?_
       refine thn_e ?_
       refine blk_e ?_
       refine blk_n ?_
       refine thn_n ?_
       refine wpf_seq_region ?_
       refine wpo_loadn (vs := [.int .i64 k, .int .i64 l9787.s, .int .i64 l9787.v, .int .i64 0, .int .i64 0, .slice (some ⟨B9805, 0, none⟩) 4 cap9806, .slice (some ⟨Bq, 0, none⟩) ys.length cq, .int .i64 to]) rt_45 e9932 rfl (k9935.rangeL 0 8 rfl) rfl ?_
       refine wpo_storen (vs := [.int .i64 k, .int .i64 l9787.s, .int .i64 l9787.v, .int .i64 0, .int .i64 0, .slice (some ⟨B9805, 0, none⟩) 4 cap9806, .slice (some ⟨Bq, 0, none⟩) ys.length cq, .int .i64 to]) (cs' := #[.int .i64 k, .int .i64 l9787.s, .int .i64 l9787.v, .int .i64 0, .int .i64 0, .slice (some ⟨B9805, 0, none⟩) 4 cap9806, .slice (some ⟨Bq, 0, none⟩) ys.length cq, .int .i64 to]) rt_45 e9931 rfl rfl (by simp [Value.oneCell']) k9933 (Nat.le_of_ble_eq_true rfl) rfl ?_
       intro w10134 hS10135
       have hb10136 := low1 hb9927 hS10135.grw (by omega)
       refine wpo_nil ?_
       refine wpf_ret ?_
       have k10137 := (hOwn.grown hS10135.grw (some_ne (by omega)))
       have k10138 := (k9934.grown hS10135.grw (some_ne (by omega)))
       have k10139 := (k9936.grown hS10135.grw (some_ne (by omega)))
       refine ⟨.agg #[.int .i64 k, .int .i64 l9787.s, .int .i64 l9787.v, .int .i64 0, .int .i64 0, .slice (some ⟨B9805, 0, none⟩) 4 cap9806, .slice (some ⟨Bq, 0, none⟩) ys.length cq, .int .i64 to], resC rfl (resCell_mk (vs := [.int .i64 k, .int .i64 l9787.s, .int .i64 l9787.v, .int .i64 0, .int .i64 0, .slice (some ⟨B9805, 0, none⟩) 4 cap9806, .slice (some ⟨Bq, 0, none⟩) ys.length cq, .int .i64 to]) rt_45 e9931 rfl (hS10135.blk.rangeL 0 8 rfl)), ⟨⟨k, l9787, 0, 0, zeros4, ys, to⟩, some ⟨B9805, 0, none⟩, cap9806, some ⟨Bq, 0, none⟩, cq⟩, p1, rfl, ⟨OwnN.of k10137 hlBq, ⟨zeros4, OwnN.of k10138 hlB9805, rfl, ?_⟩, ?_, ?_, ⟨show (0 : Int) ≤ 0 by omega, show 0 ≤ (1 : Int) by omega⟩⟩, by omega, by omega, k10139, hb10136⟩
       ·
        intro x hx; first | (simp [zeros4] at hx; subst hx; exact ⟨by decide, by decide, by decide, by decide⟩) | simp at hx
       ·
        first | exact Nat.le_of_ble_eq_true rfl | omega | (simp only [List.length_nil]; omega)
       ·
        exact Nat.le_of_ble_eq_true rfl
     ·
      have h10140 := of_decide_eq_false h9911
      refine wpf_seq_region ?_
      refine wpo_eql (q := decide (k = 3)) rfl rfl rfl rfl ?_
      refine wpo_assign (v := .bool (decide (k = 3))) rfl rfl ?_
      refine wpo_nil ?_
      refine wpf_cond rfl (fun h10141 => ?_) (fun h10141 => ?_)
      ·
       have h10142 := of_decide_eq_true h10141
       refine wpf_region ?_
       refine wpo_move (v := .pointer (some ⟨R, 0, none⟩)) rfl rfl ?_
       have k10143 := ((k9817.grown0 hN9816.grw).grown hS9821.grw (some_ne (by omega)))
       refine wpo_call (vs := [.pointer (some ⟨R, 0, none⟩), .int .i64 24]) gf_60 (args_cons rfl (args_cons rfl args_nil)) rfl (pick_c p9788 24 (by omega) _ R bs _ _ _ k10143 (by omega) (SlLt.low1 hs hb9822 hlo) (by first | exact hb | exact fun b h => hb b (List.mem_of_mem_take h)) (by first | omega | (rw [List.length_take]; omega))) ?_
       rintro _ w10149 ⟨k10144, rfl, hk10145, hk10146, kR10147, hg10148⟩
       have hb10150 := grown_trans hb9822 hg10148
       refine wpo_sub (c := k10144 - 4) rfl rfl (by omega) (by omega) (by omega) rfl ?_
       refine wpo_fieldAddr (o' := 4) fo_45_3 rfl rfl rfl ?_
       have k10151 := (hS9821.blk.grown hg10148 (some_ne (by omega)))
       refine wpo_store1 (v := .int .i64 (k10144 - 4)) (cs' := #[.int .i64 k, .int .i64 l9787.s, .int .i64 l9787.v, .int .i64 0, .int .i64 (k10144 - 4), .slice (some ⟨B9805, 0, none⟩) 4 cap9806, .slice (some ⟨B9809, 0, none⟩) 0 cap9810, .int .i64 to]) ot_3 rfl rfl rfl k10151 (Nat.le_of_ble_eq_true rfl) rfl ?_
       intro w10152 hS10153
       have hb10154 := low1 hb10150 hS10153.grw (by omega)
       refine wpo_nil ?_
       refine blk_n ?_
       refine thn_n ?_
       refine wpf_seq_region ?_
       refine wpo_loadn (vs := [.int .i64 k, .int .i64 l9787.s, .int .i64 l9787.v, .int .i64 0, .int .i64 (k10144 - 4), .slice (some ⟨B9805, 0, none⟩) 4 cap9806, .slice (some ⟨B9809, 0, none⟩) 0 cap9810, .int .i64 to]) rt_45 rfl rfl (hS10153.blk.rangeL 0 8 rfl) rfl ?_
       have k10155 := ((((k9818.grown0 hN9816.grw).grown hS9821.grw (some_ne (by omega))).grown hg10148 (some_ne (by omega))).grown hS10153.grw (some_ne (by omega)))
       refine wpo_storen (vs := [.int .i64 k, .int .i64 l9787.s, .int .i64 l9787.v, .int .i64 0, .int .i64 (k10144 - 4), .slice (some ⟨B9805, 0, none⟩) 4 cap9806, .slice (some ⟨B9809, 0, none⟩) 0 cap9810, .int .i64 to]) (cs' := #[.int .i64 k, .int .i64 l9787.s, .int .i64 l9787.v, .int .i64 0, .int .i64 (k10144 - 4), .slice (some ⟨B9805, 0, none⟩) 4 cap9806, .slice (some ⟨B9809, 0, none⟩) 0 cap9810, .int .i64 to]) rt_45 rfl rfl rfl (by simp [Value.oneCell']) k10155 (Nat.le_of_ble_eq_true rfl) rfl ?_
       intro w10156 hS10157
       have hb10158 := low1 hb10154 hS10157.grw (by omega)
       refine wpo_nil ?_
       refine wpf_ret ?_
       have k10159 := (((((hO9812.grown0 hN9816.grw).grown hS9821.grw (some_ne (by omega))).grown hg10148 (some_ne (by omega))).grown hS10153.grw (some_ne (by omega))).grown hS10157.grw (some_ne (by omega)))
       have k10160 := (((((hO9808.grown0 hN9816.grw).grown hS9821.grw (some_ne (by omega))).grown hg10148 (some_ne (by omega))).grown hS10153.grw (some_ne (by omega))).grown hS10157.grw (some_ne (by omega)))
       have k10161 := ((kR10147.grown hS10153.grw (some_ne (by omega))).grown hS10157.grw (some_ne (by omega)))
       refine ⟨.agg #[.int .i64 k, .int .i64 l9787.s, .int .i64 l9787.v, .int .i64 0, .int .i64 (k10144 - 4), .slice (some ⟨B9805, 0, none⟩) 4 cap9806, .slice (some ⟨B9809, 0, none⟩) 0 cap9810, .int .i64 to], resC rfl (resCell_mk (vs := [.int .i64 k, .int .i64 l9787.s, .int .i64 l9787.v, .int .i64 0, .int .i64 (k10144 - 4), .slice (some ⟨B9805, 0, none⟩) 4 cap9806, .slice (some ⟨B9809, 0, none⟩) 0 cap9810, .int .i64 to]) rt_45 rfl rfl (hS10157.blk.rangeL 0 8 rfl)), ⟨⟨k, l9787, 0, k10144 - 4, zeros4, ([] : List Int), to⟩, some ⟨B9805, 0, none⟩, cap9806, some ⟨B9809, 0, none⟩, cap9810⟩, (p9788 + 1), rfl, ⟨OwnN.of k10159 hlB9809, ⟨zeros4, OwnN.of k10160 hlB9805, rfl, ?_⟩, ?_, ?_, ⟨show (0 : Int) ≤ 0 by omega, show 0 ≤ (1 : Int) by omega⟩⟩, by omega, by omega, k10161, hb10158⟩
       ·
        intro x hx; first | (simp [zeros4] at hx; subst hx; exact ⟨by decide, by decide, by decide, by decide⟩) | simp at hx
       ·
        first | exact Nat.le_of_ble_eq_true rfl | omega | (simp only [List.length_nil]; omega)
       ·
        exact Nat.le_of_ble_eq_true rfl
      ·
       have h10162 := of_decide_eq_false h10141
       refine wpf_skip ?_
       refine blk_n ?_
       refine thn_n ?_
       refine wpf_seq_region ?_
       refine wpo_loadn (vs := [.int .i64 k, .int .i64 l9787.s, .int .i64 l9787.v, .int .i64 0, .int .i64 0, .slice (some ⟨B9805, 0, none⟩) 4 cap9806, .slice (some ⟨B9809, 0, none⟩) 0 cap9810, .int .i64 to]) rt_45 rfl rfl (hS9821.blk.rangeL 0 8 rfl) rfl ?_
       have k10163 := ((k9818.grown0 hN9816.grw).grown hS9821.grw (some_ne (by omega)))
       refine wpo_storen (vs := [.int .i64 k, .int .i64 l9787.s, .int .i64 l9787.v, .int .i64 0, .int .i64 0, .slice (some ⟨B9805, 0, none⟩) 4 cap9806, .slice (some ⟨B9809, 0, none⟩) 0 cap9810, .int .i64 to]) (cs' := #[.int .i64 k, .int .i64 l9787.s, .int .i64 l9787.v, .int .i64 0, .int .i64 0, .slice (some ⟨B9805, 0, none⟩) 4 cap9806, .slice (some ⟨B9809, 0, none⟩) 0 cap9810, .int .i64 to]) rt_45 rfl rfl rfl (by simp [Value.oneCell']) k10163 (Nat.le_of_ble_eq_true rfl) rfl ?_
       intro w10164 hS10165
       have hb10166 := low1 hb9822 hS10165.grw (by omega)
       refine wpo_nil ?_
       refine wpf_ret ?_
       have k10167 := (((hO9812.grown0 hN9816.grw).grown hS9821.grw (some_ne (by omega))).grown hS10165.grw (some_ne (by omega)))
       have k10168 := (((hO9808.grown0 hN9816.grw).grown hS9821.grw (some_ne (by omega))).grown hS10165.grw (some_ne (by omega)))
       have k10169 := (((k9817.grown0 hN9816.grw).grown hS9821.grw (some_ne (by omega))).grown hS10165.grw (some_ne (by omega)))
       refine ⟨.agg #[.int .i64 k, .int .i64 l9787.s, .int .i64 l9787.v, .int .i64 0, .int .i64 0, .slice (some ⟨B9805, 0, none⟩) 4 cap9806, .slice (some ⟨B9809, 0, none⟩) 0 cap9810, .int .i64 to], resC rfl (resCell_mk (vs := [.int .i64 k, .int .i64 l9787.s, .int .i64 l9787.v, .int .i64 0, .int .i64 0, .slice (some ⟨B9805, 0, none⟩) 4 cap9806, .slice (some ⟨B9809, 0, none⟩) 0 cap9810, .int .i64 to]) rt_45 rfl rfl (hS10165.blk.rangeL 0 8 rfl)), ⟨⟨k, l9787, 0, 0, zeros4, ([] : List Int), to⟩, some ⟨B9805, 0, none⟩, cap9806, some ⟨B9809, 0, none⟩, cap9810⟩, p9788, rfl, ⟨OwnN.of k10167 hlB9809, ⟨zeros4, OwnN.of k10168 hlB9805, rfl, ?_⟩, ?_, ?_, ⟨show (0 : Int) ≤ 0 by omega, show 0 ≤ (1 : Int) by omega⟩⟩, by omega, by omega, k10169, hb10166⟩
       ·
        intro x hx; first | (simp [zeros4] at hx; subst hx; exact ⟨by decide, by decide, by decide, by decide⟩) | simp at hx
       ·
        first | exact Nat.le_of_ble_eq_true rfl | omega | (simp only [List.length_nil]; omega)
       ·
        exact Nat.le_of_ble_eq_true rfl
  ·
   have k10170 := (hN9784.blk.grown hg9796 (some_ne (by omega)))
   have h10171 : thingOk (⟨k, l9787, 0, 0, zeros4, [], to⟩ : Th) = false := (newOk_y h9799).symm.trans h9800
   refine wpo_call (vs := [.int .i64 k, .agg #[.int .i64 l9787.s, .int .i64 l9787.v], .int .i64 to]) gf_23 (args_cons rfl (args_cons rfl (args_cons rfl args_nil))) rfl (sThingNew_yf k to l9787 h9799 h9800 _) ?_
   rintro _ w10172 ⟨rfl, hg10173⟩
   have hb10174 := low0 hb9798 hg10173
   refine wpo_move (v := .tuple #[.agg #[.int .i64 0, .int .i64 0, .int .i64 0, .int .i64 0, .int .i64 0, .slice none 0 0, .slice none 0 0, .int .i64 0], .bool false]) rfl rfl ?_
   refine wpo_extract (v := .agg #[.int .i64 0, .int .i64 0, .int .i64 0, .int .i64 0, .int .i64 0, .slice none 0 0, .slice none 0 0, .int .i64 0]) rfl rfl rfl ?_
   refine wpo_extract (v := .bool false) rfl rfl rfl ?_
   refine wpo_alloc (cs := #[.int .i64 0, .int .i64 0, .int .i64 0, .int .i64 0, .int .i64 0, .slice none 0 0, .slice none 0 0, .int .i64 0]) zt_45 rfl rfl ?_
   intro B10175 w10176 hN10177
   have hlB10175 := hN_ge hN10177 hb10174
   have k10178 := (kR9795.grown0 hg10173)
   have lt_R_B10175 := hN_gtl hN10177 (k10178).lt
   have k10179 := (k10170.grown0 hg10173)
   have lt_B9782_B10175 := hN_gtl hN10177 (k10179).lt
   have hb10180 := low0 hb10174 hN10177.grw
   refine wpo_storen (vs := [.int .i64 0, .int .i64 0, .int .i64 0, .int .i64 0, .int .i64 0, .slice none 0 0, .slice none 0 0, .int .i64 0]) (cs' := #[.int .i64 0, .int .i64 0, .int .i64 0, .int .i64 0, .int .i64 0, .slice none 0 0, .slice none 0 0, .int .i64 0]) rt_45 rfl rfl rfl (by simp [Value.oneCell']) hN10177.blk (Nat.le_of_ble_eq_true rfl) rfl ?_
   intro w10181 hS10182
   have hb10183 := low1 hb10180 hS10182.grw (by omega)
   refine wpo_assign (v := .bool false) rfl rfl ?_
   refine wpo_nil ?_
   refine wpf_seq ?_
   refine wpf_seq_region ?_
   refine wpo_fieldAddr (o' := 0) fo_45_0 rfl rfl rfl ?_
   refine wpo_load1 (v := .int .i64 0) ot_3 rfl (hS10182.blk.cell rfl) rfl ?_
   refine wpo_eql (q := true) rfl rfl (by decide) rfl ?_
   refine wpo_nil ?_
   refine wpf_condt rfl rfl ?_
   refine wpf_region ?_
   refine wpo_build (ps := []) (v := .agg #[.int .i64 0, .int .i64 0]) parts_nil (by kernel_rfl) rfl ?_
   have k10184 := ((k10178.grown0 hN10177.grw).grown hS10182.grw (some_ne (by omega)))
   have k10185 := ((k10179.grown0 hN10177.grw).grown hS10182.grw (some_ne (by omega)))
   have h10186 : thingOk (⟨1, ⟨0, 0⟩, 0, 0, [], [], 0⟩ : Th) = true := (newOk_n (by decide)).symm.trans (by decide)
   refine wpo_call (vs := [.int .i64 1, .agg #[.int .i64 0, .int .i64 0], .int .i64 0]) gf_23 (args_cons rfl (args_cons rfl (args_cons rfl args_nil))) rfl (sThingNew_nt 1 0 ⟨0, 0⟩ (by decide) (by decide) _) ?_
   rintro _ w10187 ⟨B10189, cap10190, B10193, cap10194, rfl, hge10191, hO10192, hge10195, hO10196, ne_B10189_B10193, hg10188⟩
   have hb10197 := low0 hb10183 hg10188
   have hlB10189 := Nat.le_trans hb10183.size hge10191
   have lt_R_B10189 := Nat.lt_of_lt_of_le (k10184).lt hge10191
   have lt_B9782_B10189 := Nat.lt_of_lt_of_le (k10185).lt hge10191
   have lt_B10175_B10189 := Nat.lt_of_lt_of_le (hS10182.blk).lt hge10191
   have hlB10193 := Nat.le_trans hb10183.size hge10195
   have lt_R_B10193 := Nat.lt_of_lt_of_le (k10184).lt hge10195
   have lt_B9782_B10193 := Nat.lt_of_lt_of_le (k10185).lt hge10195
   have lt_B10175_B10193 := Nat.lt_of_lt_of_le (hS10182.blk).lt hge10195
   refine wpo_move (v := .tuple #[.agg #[.int .i64 1, .int .i64 0, .int .i64 0, .int .i64 0, .int .i64 0, .slice (some ⟨B10189, 0, none⟩) 0 cap10190, .slice (some ⟨B10193, 0, none⟩) 0 cap10194, .int .i64 0], .bool true]) rfl rfl ?_
   refine wpo_extract (v := .agg #[.int .i64 1, .int .i64 0, .int .i64 0, .int .i64 0, .int .i64 0, .slice (some ⟨B10189, 0, none⟩) 0 cap10190, .slice (some ⟨B10193, 0, none⟩) 0 cap10194, .int .i64 0]) rfl rfl rfl ?_
   refine wpo_extract (v := .bool true) rfl rfl rfl ?_
   have k10198 := (hS10182.blk.grown0 hg10188)
   refine wpo_storen (vs := [.int .i64 1, .int .i64 0, .int .i64 0, .int .i64 0, .int .i64 0, .slice (some ⟨B10189, 0, none⟩) 0 cap10190, .slice (some ⟨B10193, 0, none⟩) 0 cap10194, .int .i64 0]) (cs' := #[.int .i64 1, .int .i64 0, .int .i64 0, .int .i64 0, .int .i64 0, .slice (some ⟨B10189, 0, none⟩) 0 cap10190, .slice (some ⟨B10193, 0, none⟩) 0 cap10194, .int .i64 0]) rt_45 rfl rfl rfl (by simp [Value.oneCell']) k10198 (Nat.le_of_ble_eq_true rfl) rfl ?_
   intro w10199 hS10200
   have hb10201 := low1 hb10197 hS10200.grw (by omega)
   refine wpo_nil ?_
   refine thn_n ?_
   refine wpf_seq ?_
   refine wpf_seq_region ?_
   refine wpo_fieldAddr (o' := 0) fo_45_0 rfl rfl rfl ?_
   refine wpo_load1 (v := .int .i64 1) ot_3 rfl (hS10200.blk.cell rfl) rfl ?_
   refine wpo_nil ?_
   refine wpf_block ?_
   refine wpf_seq_region ?_
   refine wpo_eql (q := true) rfl rfl (by decide) rfl ?_
   refine wpo_assign (v := .bool true) rfl rfl ?_
   refine wpo_nil ?_
   refine wpf_condt rfl rfl ?_
   refine wpf_seq_region ?_
   refine wpo_move (v := .pointer (some ⟨R, 0, none⟩)) rfl rfl ?_
   have k10202 := ((k10184.grown0 hg10188).grown hS10200.grw (some_ne (by omega)))
   refine wpo_call (vs := [.pointer (some ⟨R, 0, none⟩), .int .i64 20]) gf_60 (args_cons rfl (args_cons rfl args_nil)) rfl (pick_c p9788 20 (by omega) _ R bs _ _ _ k10202 (by omega) (SlLt.low1 hs hb10201 hlo) (by first | exact hb | exact fun b h => hb b (List.mem_of_mem_take h)) (by first | omega | (rw [List.length_take]; omega))) ?_
   rintro _ w10208 ⟨k10203, rfl, hk10204, hk10205, kR10206, hg10207⟩
   have hb10209 := grown_trans hb10201 hg10207
   refine wpo_fieldAddr (o' := 4) fo_45_3 rfl rfl rfl ?_
   have k10210 := (hS10200.blk.grown hg10207 (some_ne (by omega)))
   refine wpo_store1 (v := .int .i64 k10203) (cs' := #[.int .i64 1, .int .i64 0, .int .i64 0, .int .i64 0, .int .i64 k10203, .slice (some ⟨B10189, 0, none⟩) 0 cap10190, .slice (some ⟨B10193, 0, none⟩) 0 cap10194, .int .i64 0]) ot_3 rfl rfl rfl k10210 (Nat.le_of_ble_eq_true rfl) rfl ?_
   intro w10211 hS10212
   have hb10213 := low1 hb10209 hS10212.grw (by omega)
   refine wpo_nil ?_
   refine wpf_region ?_
   refine wpo_move (v := .pointer (some ⟨R, 0, none⟩)) rfl rfl ?_
   have k10214 := (kR10206.grown hS10212.grw (some_ne (by omega)))
   refine wpo_call (vs := [.pointer (some ⟨R, 0, none⟩), .int .i64 3]) gf_60 (args_cons rfl (args_cons rfl args_nil)) rfl (pick_c (p9788 + 1) 3 (by omega) _ R bs _ _ _ k10214 (by omega) (SlLt.low1 hs hb10213 hlo) (by first | exact hb | exact fun b h => hb b (List.mem_of_mem_take h)) (by first | omega | (rw [List.length_take]; omega))) ?_
   rintro _ w10220 ⟨k10215, rfl, hk10216, hk10217, kR10218, hg10219⟩
   have hb10221 := grown_trans hb10213 hg10219
   refine wpo_quo (c := k10215 / 2) rfl rfl (by omega) (by omega) (by omega) rfl rfl ?_
   refine wpo_fieldAddr (o' := 3) fo_45_2 rfl rfl rfl ?_
   have k10222 := (hS10212.blk.grown hg10219 (some_ne (by omega)))
   refine wpo_store1 (v := .int .i64 (k10215 / 2)) (cs' := #[.int .i64 1, .int .i64 0, .int .i64 0, .int .i64 (k10215 / 2), .int .i64 k10203, .slice (some ⟨B10189, 0, none⟩) 0 cap10190, .slice (some ⟨B10193, 0, none⟩) 0 cap10194, .int .i64 0]) ot_3 rfl rfl rfl k10222 (Nat.le_of_ble_eq_true rfl) rfl ?_
   intro w10223 hS10224
   have hb10225 := low1 hb10221 hS10224.grw (by omega)
   refine wpo_nil ?_
   refine blk_n ?_
   refine thn_n ?_
   refine wpf_seq_region ?_
   refine wpo_loadn (vs := [.int .i64 1, .int .i64 0, .int .i64 0, .int .i64 (k10215 / 2), .int .i64 k10203, .slice (some ⟨B10189, 0, none⟩) 0 cap10190, .slice (some ⟨B10193, 0, none⟩) 0 cap10194, .int .i64 0]) rt_45 rfl rfl (hS10224.blk.rangeL 0 8 rfl) rfl ?_
   have k10226 := ((((((k10185.grown0 hg10188).grown hS10200.grw (some_ne (by omega))).grown hg10207 (some_ne (by omega))).grown hS10212.grw (some_ne (by omega))).grown hg10219 (some_ne (by omega))).grown hS10224.grw (some_ne (by omega)))
   refine wpo_storen (vs := [.int .i64 1, .int .i64 0, .int .i64 0, .int .i64 (k10215 / 2), .int .i64 k10203, .slice (some ⟨B10189, 0, none⟩) 0 cap10190, .slice (some ⟨B10193, 0, none⟩) 0 cap10194, .int .i64 0]) (cs' := #[.int .i64 1, .int .i64 0, .int .i64 0, .int .i64 (k10215 / 2), .int .i64 k10203, .slice (some ⟨B10189, 0, none⟩) 0 cap10190, .slice (some ⟨B10193, 0, none⟩) 0 cap10194, .int .i64 0]) rt_45 rfl rfl rfl (by simp [Value.oneCell']) k10226 (Nat.le_of_ble_eq_true rfl) rfl ?_
   intro w10227 hS10228
   have hb10229 := low1 hb10225 hS10228.grw (by omega)
   refine wpo_nil ?_
   refine wpf_ret ?_
   have k10230 := ((((((hO10196.grown hS10200.grw (some_ne (by omega))).grown hg10207 (some_ne (by omega))).grown hS10212.grw (some_ne (by omega))).grown hg10219 (some_ne (by omega))).grown hS10224.grw (some_ne (by omega))).grown hS10228.grw (some_ne (by omega)))
   have k10231 := ((((((hO10192.grown hS10200.grw (some_ne (by omega))).grown hg10207 (some_ne (by omega))).grown hS10212.grw (some_ne (by omega))).grown hg10219 (some_ne (by omega))).grown hS10224.grw (some_ne (by omega))).grown hS10228.grw (some_ne (by omega)))
   have k10232 := ((kR10218.grown hS10224.grw (some_ne (by omega))).grown hS10228.grw (some_ne (by omega)))
   refine ⟨.agg #[.int .i64 1, .int .i64 0, .int .i64 0, .int .i64 (k10215 / 2), .int .i64 k10203, .slice (some ⟨B10189, 0, none⟩) 0 cap10190, .slice (some ⟨B10193, 0, none⟩) 0 cap10194, .int .i64 0], resC rfl (resCell_mk (vs := [.int .i64 1, .int .i64 0, .int .i64 0, .int .i64 (k10215 / 2), .int .i64 k10203, .slice (some ⟨B10189, 0, none⟩) 0 cap10190, .slice (some ⟨B10193, 0, none⟩) 0 cap10194, .int .i64 0]) rt_45 rfl rfl (hS10228.blk.rangeL 0 8 rfl)), ⟨⟨1, ⟨0, 0⟩, k10215 / 2, k10203, ([] : List Rt), ([] : List Int), 0⟩, some ⟨B10189, 0, none⟩, cap10190, some ⟨B10193, 0, none⟩, cap10194⟩, (p9788 + 1 + 1), rfl, ⟨OwnN.of k10230 hlB10193, ⟨([] : List Rt), OwnN.of k10231 hlB10189, rfl, ?_⟩, ?_, ?_, ⟨show (0 : Int) ≤ k10215 / 2 by omega, show k10215 / 2 ≤ (1 : Int) by omega⟩⟩, by omega, by omega, k10232, hb10229⟩
   ·
    intro x hx; first | (simp [zeros4] at hx; subst hx; exact ⟨by decide, by decide, by decide, by decide⟩) | simp at hx
   ·
    first | exact Nat.le_of_ble_eq_true rfl | omega | (simp only [List.length_nil]; omega)
   ·
    exact Nat.le_of_ble_eq_true rfl
 ·
  have h10233 := or_l h9799
  have h10234 := of_decide_eq_false h10233
  have h10235 := or_r h9799
  have h10236 := of_decide_eq_false h10235
  rcases bcases (newOk k l9787 to) with h10237 | h10237
  ·
   have k10238 := (hN9784.blk.grown hg9796 (some_ne (by omega)))
   have h10239 : thingOk (⟨k, l9787, 0, 0, [], [], to⟩ : Th) = true := (newOk_n h9799).symm.trans h10237
   refine wpo_call (vs := [.int .i64 k, .agg #[.int .i64 l9787.s, .int .i64 l9787.v], .int .i64 to]) gf_23 (args_cons rfl (args_cons rfl (args_cons rfl args_nil))) rfl (sThingNew_nt k to l9787 h9799 h10237 _) ?_
   rintro _ w10240 ⟨B10242, cap10243, B10246, cap10247, rfl, hge10244, hO10245, hge10248, hO10249, ne_B10242_B10246, hg10241⟩
   have hb10250 := low0 hb9798 hg10241
   have hlB10242 := Nat.le_trans hb9798.size hge10244
   have lt_R_B10242 := Nat.lt_of_lt_of_le (kR9795).lt hge10244
   have lt_B9782_B10242 := Nat.lt_of_lt_of_le (k10238).lt hge10244
   have hlB10246 := Nat.le_trans hb9798.size hge10248
   have lt_R_B10246 := Nat.lt_of_lt_of_le (kR9795).lt hge10248
   have lt_B9782_B10246 := Nat.lt_of_lt_of_le (k10238).lt hge10248
   refine wpo_move (v := .tuple #[.agg #[.int .i64 k, .int .i64 l9787.s, .int .i64 l9787.v, .int .i64 0, .int .i64 0, .slice (some ⟨B10242, 0, none⟩) 0 cap10243, .slice (some ⟨B10246, 0, none⟩) 0 cap10247, .int .i64 to], .bool true]) rfl rfl ?_
   refine wpo_extract (v := .agg #[.int .i64 k, .int .i64 l9787.s, .int .i64 l9787.v, .int .i64 0, .int .i64 0, .slice (some ⟨B10242, 0, none⟩) 0 cap10243, .slice (some ⟨B10246, 0, none⟩) 0 cap10247, .int .i64 to]) rfl rfl rfl ?_
   refine wpo_extract (v := .bool true) rfl rfl rfl ?_
   refine wpo_alloc (cs := #[.int .i64 0, .int .i64 0, .int .i64 0, .int .i64 0, .int .i64 0, .slice none 0 0, .slice none 0 0, .int .i64 0]) zt_45 rfl rfl ?_
   intro B10251 w10252 hN10253
   have hlB10251 := hN_ge hN10253 hb10250
   have k10254 := (kR9795.grown0 hg10241)
   have lt_R_B10251 := hN_gtl hN10253 (k10254).lt
   have k10255 := (k10238.grown0 hg10241)
   have lt_B9782_B10251 := hN_gtl hN10253 (k10255).lt
   have lt_B10246_B10251 := hN_gtl hN10253 (hO10249).lt
   have lt_B10242_B10251 := hN_gtl hN10253 (hO10245).lt
   have hb10256 := low0 hb10250 hN10253.grw
   refine wpo_storen (vs := [.int .i64 k, .int .i64 l9787.s, .int .i64 l9787.v, .int .i64 0, .int .i64 0, .slice (some ⟨B10242, 0, none⟩) 0 cap10243, .slice (some ⟨B10246, 0, none⟩) 0 cap10247, .int .i64 to]) (cs' := #[.int .i64 k, .int .i64 l9787.s, .int .i64 l9787.v, .int .i64 0, .int .i64 0, .slice (some ⟨B10242, 0, none⟩) 0 cap10243, .slice (some ⟨B10246, 0, none⟩) 0 cap10247, .int .i64 to]) rt_45 rfl rfl rfl (by simp [Value.oneCell']) hN10253.blk (Nat.le_of_ble_eq_true rfl) rfl ?_
   intro w10257 hS10258
   have hb10259 := low1 hb10256 hS10258.grw (by omega)
   refine wpo_assign (v := .bool true) rfl rfl ?_
   refine wpo_nil ?_
   refine wpf_seq ?_
   refine wpf_seq_region ?_
   refine wpo_fieldAddr (o' := 0) fo_45_0 rfl rfl rfl ?_
   refine wpo_load1 (v := .int .i64 k) ot_3 rfl (hS10258.blk.cell rfl) rfl ?_
   refine wpo_eql (q := decide (k = 0)) rfl rfl rfl rfl ?_
   refine wpo_nil ?_
   refine wpf_cond rfl (fun h10260 => ?_) (fun h10260 => ?_)
   ·
    have h10261 := of_decide_eq_true h10260
    refine wpf_region ?_
    refine wpo_build (ps := []) (v := .agg #[.int .i64 0, .int .i64 0]) parts_nil (by kernel_rfl) rfl ?_
    have k10262 := ((k10254.grown0 hN10253.grw).grown hS10258.grw (some_ne (by omega)))
    have k10263 := ((k10255.grown0 hN10253.grw).grown hS10258.grw (some_ne (by omega)))
    have k10264 := ((hO10249.grown0 hN10253.grw).grown hS10258.grw (some_ne (by omega)))
    have k10265 := ((hO10245.grown0 hN10253.grw).grown hS10258.grw (some_ne (by omega)))
    have h10266 : thingOk (⟨1, ⟨0, 0⟩, 0, 0, [], [], 0⟩ : Th) = true := (newOk_n (by decide)).symm.trans (by decide)
    refine wpo_call (vs := [.int .i64 1, .agg #[.int .i64 0, .int .i64 0], .int .i64 0]) gf_23 (args_cons rfl (args_cons rfl (args_cons rfl args_nil))) rfl (sThingNew_nt 1 0 ⟨0, 0⟩ (by decide) (by decide) _) ?_
    rintro _ w10267 ⟨B10269, cap10270, B10273, cap10274, rfl, hge10271, hO10272, hge10275, hO10276, ne_B10269_B10273, hg10268⟩
    have hb10277 := low0 hb10259 hg10268
    have hlB10269 := Nat.le_trans hb10259.size hge10271
    have lt_R_B10269 := Nat.lt_of_lt_of_le (k10262).lt hge10271
    have lt_B9782_B10269 := Nat.lt_of_lt_of_le (k10263).lt hge10271
    have lt_B10246_B10269 := Nat.lt_of_lt_of_le (k10264).lt hge10271
    have lt_B10242_B10269 := Nat.lt_of_lt_of_le (k10265).lt hge10271
    have lt_B10251_B10269 := Nat.lt_of_lt_of_le (hS10258.blk).lt hge10271
    have hlB10273 := Nat.le_trans hb10259.size hge10275
    have lt_R_B10273 := Nat.lt_of_lt_of_le (k10262).lt hge10275
    have lt_B9782_B10273 := Nat.lt_of_lt_of_le (k10263).lt hge10275
    have lt_B10246_B10273 := Nat.lt_of_lt_of_le (k10264).lt hge10275
    have lt_B10242_B10273 := Nat.lt_of_lt_of_le (k10265).lt hge10275
    have lt_B10251_B10273 := Nat.lt_of_lt_of_le (hS10258.blk).lt hge10275
    refine wpo_move (v := .tuple #[.agg #[.int .i64 1, .int .i64 0, .int .i64 0, .int .i64 0, .int .i64 0, .slice (some ⟨B10269, 0, none⟩) 0 cap10270, .slice (some ⟨B10273, 0, none⟩) 0 cap10274, .int .i64 0], .bool true]) rfl rfl ?_
    refine wpo_extract (v := .agg #[.int .i64 1, .int .i64 0, .int .i64 0, .int .i64 0, .int .i64 0, .slice (some ⟨B10269, 0, none⟩) 0 cap10270, .slice (some ⟨B10273, 0, none⟩) 0 cap10274, .int .i64 0]) rfl rfl rfl ?_
    refine wpo_extract (v := .bool true) rfl rfl rfl ?_
    have k10278 := (hS10258.blk.grown0 hg10268)
    refine wpo_storen (vs := [.int .i64 1, .int .i64 0, .int .i64 0, .int .i64 0, .int .i64 0, .slice (some ⟨B10269, 0, none⟩) 0 cap10270, .slice (some ⟨B10273, 0, none⟩) 0 cap10274, .int .i64 0]) (cs' := #[.int .i64 1, .int .i64 0, .int .i64 0, .int .i64 0, .int .i64 0, .slice (some ⟨B10269, 0, none⟩) 0 cap10270, .slice (some ⟨B10273, 0, none⟩) 0 cap10274, .int .i64 0]) rt_45 rfl rfl rfl (by simp [Value.oneCell']) k10278 (Nat.le_of_ble_eq_true rfl) rfl ?_
    intro w10279 hS10280
    have hb10281 := low1 hb10277 hS10280.grw (by omega)
    refine wpo_nil ?_
    refine thn_n ?_
    refine wpf_seq ?_
    refine wpf_seq_region ?_
    refine wpo_fieldAddr (o' := 0) fo_45_0 rfl rfl rfl ?_
    refine wpo_load1 (v := .int .i64 1) ot_3 rfl (hS10280.blk.cell rfl) rfl ?_
    refine wpo_nil ?_
    refine wpf_block ?_
    refine wpf_seq_region ?_
    refine wpo_eql (q := true) rfl rfl (by decide) rfl ?_
    refine wpo_assign (v := .bool true) rfl rfl ?_
    refine wpo_nil ?_
    refine wpf_condt rfl rfl ?_
    refine wpf_seq_region ?_
    refine wpo_move (v := .pointer (some ⟨R, 0, none⟩)) rfl rfl ?_
    have k10282 := ((k10262.grown0 hg10268).grown hS10280.grw (some_ne (by omega)))
    refine wpo_call (vs := [.pointer (some ⟨R, 0, none⟩), .int .i64 20]) gf_60 (args_cons rfl (args_cons rfl args_nil)) rfl (pick_c p9788 20 (by omega) _ R bs _ _ _ k10282 (by omega) (SlLt.low1 hs hb10281 hlo) (by first | exact hb | exact fun b h => hb b (List.mem_of_mem_take h)) (by first | omega | (rw [List.length_take]; omega))) ?_
    rintro _ w10288 ⟨k10283, rfl, hk10284, hk10285, kR10286, hg10287⟩
    have hb10289 := grown_trans hb10281 hg10287
    refine wpo_fieldAddr (o' := 4) fo_45_3 rfl rfl rfl ?_
    have k10290 := (hS10280.blk.grown hg10287 (some_ne (by omega)))
    refine wpo_store1 (v := .int .i64 k10283) (cs' := #[.int .i64 1, .int .i64 0, .int .i64 0, .int .i64 0, .int .i64 k10283, .slice (some ⟨B10269, 0, none⟩) 0 cap10270, .slice (some ⟨B10273, 0, none⟩) 0 cap10274, .int .i64 0]) ot_3 rfl rfl rfl k10290 (Nat.le_of_ble_eq_true rfl) rfl ?_
    intro w10291 hS10292
    have hb10293 := low1 hb10289 hS10292.grw (by omega)
    refine wpo_nil ?_
    refine wpf_region ?_
    refine wpo_move (v := .pointer (some ⟨R, 0, none⟩)) rfl rfl ?_
    have k10294 := (kR10286.grown hS10292.grw (some_ne (by omega)))
    refine wpo_call (vs := [.pointer (some ⟨R, 0, none⟩), .int .i64 3]) gf_60 (args_cons rfl (args_cons rfl args_nil)) rfl (pick_c (p9788 + 1) 3 (by omega) _ R bs _ _ _ k10294 (by omega) (SlLt.low1 hs hb10293 hlo) (by first | exact hb | exact fun b h => hb b (List.mem_of_mem_take h)) (by first | omega | (rw [List.length_take]; omega))) ?_
    rintro _ w10300 ⟨k10295, rfl, hk10296, hk10297, kR10298, hg10299⟩
    have hb10301 := grown_trans hb10293 hg10299
    refine wpo_quo (c := k10295 / 2) rfl rfl (by omega) (by omega) (by omega) rfl rfl ?_
    refine wpo_fieldAddr (o' := 3) fo_45_2 rfl rfl rfl ?_
    have k10302 := (hS10292.blk.grown hg10299 (some_ne (by omega)))
    refine wpo_store1 (v := .int .i64 (k10295 / 2)) (cs' := #[.int .i64 1, .int .i64 0, .int .i64 0, .int .i64 (k10295 / 2), .int .i64 k10283, .slice (some ⟨B10269, 0, none⟩) 0 cap10270, .slice (some ⟨B10273, 0, none⟩) 0 cap10274, .int .i64 0]) ot_3 rfl rfl rfl k10302 (Nat.le_of_ble_eq_true rfl) rfl ?_
    intro w10303 hS10304
    have hb10305 := low1 hb10301 hS10304.grw (by omega)
    refine wpo_nil ?_
    refine blk_n ?_
    refine thn_n ?_
    refine wpf_seq_region ?_
    refine wpo_loadn (vs := [.int .i64 1, .int .i64 0, .int .i64 0, .int .i64 (k10295 / 2), .int .i64 k10283, .slice (some ⟨B10269, 0, none⟩) 0 cap10270, .slice (some ⟨B10273, 0, none⟩) 0 cap10274, .int .i64 0]) rt_45 rfl rfl (hS10304.blk.rangeL 0 8 rfl) rfl ?_
    have k10306 := ((((((k10263.grown0 hg10268).grown hS10280.grw (some_ne (by omega))).grown hg10287 (some_ne (by omega))).grown hS10292.grw (some_ne (by omega))).grown hg10299 (some_ne (by omega))).grown hS10304.grw (some_ne (by omega)))
    refine wpo_storen (vs := [.int .i64 1, .int .i64 0, .int .i64 0, .int .i64 (k10295 / 2), .int .i64 k10283, .slice (some ⟨B10269, 0, none⟩) 0 cap10270, .slice (some ⟨B10273, 0, none⟩) 0 cap10274, .int .i64 0]) (cs' := #[.int .i64 1, .int .i64 0, .int .i64 0, .int .i64 (k10295 / 2), .int .i64 k10283, .slice (some ⟨B10269, 0, none⟩) 0 cap10270, .slice (some ⟨B10273, 0, none⟩) 0 cap10274, .int .i64 0]) rt_45 rfl rfl rfl (by simp [Value.oneCell']) k10306 (Nat.le_of_ble_eq_true rfl) rfl ?_
    intro w10307 hS10308
    have hb10309 := low1 hb10305 hS10308.grw (by omega)
    refine wpo_nil ?_
    refine wpf_ret ?_
    have k10310 := ((((((hO10276.grown hS10280.grw (some_ne (by omega))).grown hg10287 (some_ne (by omega))).grown hS10292.grw (some_ne (by omega))).grown hg10299 (some_ne (by omega))).grown hS10304.grw (some_ne (by omega))).grown hS10308.grw (some_ne (by omega)))
    have k10311 := ((((((hO10272.grown hS10280.grw (some_ne (by omega))).grown hg10287 (some_ne (by omega))).grown hS10292.grw (some_ne (by omega))).grown hg10299 (some_ne (by omega))).grown hS10304.grw (some_ne (by omega))).grown hS10308.grw (some_ne (by omega)))
    have k10312 := ((kR10298.grown hS10304.grw (some_ne (by omega))).grown hS10308.grw (some_ne (by omega)))
    refine ⟨.agg #[.int .i64 1, .int .i64 0, .int .i64 0, .int .i64 (k10295 / 2), .int .i64 k10283, .slice (some ⟨B10269, 0, none⟩) 0 cap10270, .slice (some ⟨B10273, 0, none⟩) 0 cap10274, .int .i64 0], resC rfl (resCell_mk (vs := [.int .i64 1, .int .i64 0, .int .i64 0, .int .i64 (k10295 / 2), .int .i64 k10283, .slice (some ⟨B10269, 0, none⟩) 0 cap10270, .slice (some ⟨B10273, 0, none⟩) 0 cap10274, .int .i64 0]) rt_45 rfl rfl (hS10308.blk.rangeL 0 8 rfl)), ⟨⟨1, ⟨0, 0⟩, k10295 / 2, k10283, ([] : List Rt), ([] : List Int), 0⟩, some ⟨B10269, 0, none⟩, cap10270, some ⟨B10273, 0, none⟩, cap10274⟩, (p9788 + 1 + 1), rfl, ⟨OwnN.of k10310 hlB10273, ⟨([] : List Rt), OwnN.of k10311 hlB10269, rfl, ?_⟩, ?_, ?_, ⟨show (0 : Int) ≤ k10295 / 2 by omega, show k10295 / 2 ≤ (1 : Int) by omega⟩⟩, by omega, by omega, k10312, hb10309⟩
    ·
     intro x hx; first | (simp [zeros4] at hx; subst hx; exact ⟨by decide, by decide, by decide, by decide⟩) | simp at hx
    ·
     first | exact Nat.le_of_ble_eq_true rfl | omega | (simp only [List.length_nil]; omega)
    ·
     exact Nat.le_of_ble_eq_true rfl
   ·
    have h10313 := of_decide_eq_false h10260
    refine wpf_skip ?_
    refine thn_n ?_
    refine wpf_seq ?_
    refine wpf_seq_region ?_
    refine wpo_fieldAddr (o' := 0) fo_45_0 rfl rfl rfl ?_
    refine wpo_load1 (v := .int .i64 k) ot_3 rfl (hS10258.blk.cell rfl) rfl ?_
    refine wpo_nil ?_
    refine wpf_block ?_
    refine wpf_seq_region ?_
    refine wpo_eql (q := decide (k = 1)) rfl rfl rfl rfl ?_
    refine wpo_assign (v := .bool (decide (k = 1))) rfl rfl ?_
    refine wpo_nil ?_
    refine wpf_cond rfl (fun h10314 => ?_) (fun h10314 => ?_)
    ·
     have h10315 := of_decide_eq_true h10314
     refine wpf_seq_region ?_
     refine wpo_move (v := .pointer (some ⟨R, 0, none⟩)) rfl rfl ?_
     have k10316 := ((k10254.grown0 hN10253.grw).grown hS10258.grw (some_ne (by omega)))
     refine wpo_call (vs := [.pointer (some ⟨R, 0, none⟩), .int .i64 20]) gf_60 (args_cons rfl (args_cons rfl args_nil)) rfl (pick_c p9788 20 (by omega) _ R bs _ _ _ k10316 (by omega) (SlLt.low1 hs hb10259 hlo) (by first | exact hb | exact fun b h => hb b (List.mem_of_mem_take h)) (by first | omega | (rw [List.length_take]; omega))) ?_
     rintro _ w10322 ⟨k10317, rfl, hk10318, hk10319, kR10320, hg10321⟩
     have hb10323 := grown_trans hb10259 hg10321
     refine wpo_fieldAddr (o' := 4) fo_45_3 rfl rfl rfl ?_
     have k10324 := (hS10258.blk.grown hg10321 (some_ne (by omega)))
     refine wpo_store1 (v := .int .i64 k10317) (cs' := #[.int .i64 k, .int .i64 l9787.s, .int .i64 l9787.v, .int .i64 0, .int .i64 k10317, .slice (some ⟨B10242, 0, none⟩) 0 cap10243, .slice (some ⟨B10246, 0, none⟩) 0 cap10247, .int .i64 to]) ot_3 rfl rfl rfl k10324 (Nat.le_of_ble_eq_true rfl) rfl ?_
     intro w10325 hS10326
     have hb10327 := low1 hb10323 hS10326.grw (by omega)
     refine wpo_nil ?_
     refine wpf_region ?_
     refine wpo_move (v := .pointer (some ⟨R, 0, none⟩)) rfl rfl ?_
     have k10328 := (kR10320.grown hS10326.grw (some_ne (by omega)))
     refine wpo_call (vs := [.pointer (some ⟨R, 0, none⟩), .int .i64 3]) gf_60 (args_cons rfl (args_cons rfl args_nil)) rfl (pick_c (p9788 + 1) 3 (by omega) _ R bs _ _ _ k10328 (by omega) (SlLt.low1 hs hb10327 hlo) (by first | exact hb | exact fun b h => hb b (List.mem_of_mem_take h)) (by first | omega | (rw [List.length_take]; omega))) ?_
     rintro _ w10334 ⟨k10329, rfl, hk10330, hk10331, kR10332, hg10333⟩
     have hb10335 := grown_trans hb10327 hg10333
     refine wpo_quo (c := k10329 / 2) rfl rfl (by omega) (by omega) (by omega) rfl rfl ?_
     refine wpo_fieldAddr (o' := 3) fo_45_2 rfl rfl rfl ?_
     have k10336 := (hS10326.blk.grown hg10333 (some_ne (by omega)))
     refine wpo_store1 (v := .int .i64 (k10329 / 2)) (cs' := #[.int .i64 k, .int .i64 l9787.s, .int .i64 l9787.v, .int .i64 (k10329 / 2), .int .i64 k10317, .slice (some ⟨B10242, 0, none⟩) 0 cap10243, .slice (some ⟨B10246, 0, none⟩) 0 cap10247, .int .i64 to]) ot_3 rfl rfl rfl k10336 (Nat.le_of_ble_eq_true rfl) rfl ?_
     intro w10337 hS10338
     have hb10339 := low1 hb10335 hS10338.grw (by omega)
     refine wpo_nil ?_
     refine blk_n ?_
     refine thn_n ?_
     refine wpf_seq_region ?_
     refine wpo_loadn (vs := [.int .i64 k, .int .i64 l9787.s, .int .i64 l9787.v, .int .i64 (k10329 / 2), .int .i64 k10317, .slice (some ⟨B10242, 0, none⟩) 0 cap10243, .slice (some ⟨B10246, 0, none⟩) 0 cap10247, .int .i64 to]) rt_45 rfl rfl (hS10338.blk.rangeL 0 8 rfl) rfl ?_
     have k10340 := ((((((k10255.grown0 hN10253.grw).grown hS10258.grw (some_ne (by omega))).grown hg10321 (some_ne (by omega))).grown hS10326.grw (some_ne (by omega))).grown hg10333 (some_ne (by omega))).grown hS10338.grw (some_ne (by omega)))
     refine wpo_storen (vs := [.int .i64 k, .int .i64 l9787.s, .int .i64 l9787.v, .int .i64 (k10329 / 2), .int .i64 k10317, .slice (some ⟨B10242, 0, none⟩) 0 cap10243, .slice (some ⟨B10246, 0, none⟩) 0 cap10247, .int .i64 to]) (cs' := #[.int .i64 k, .int .i64 l9787.s, .int .i64 l9787.v, .int .i64 (k10329 / 2), .int .i64 k10317, .slice (some ⟨B10242, 0, none⟩) 0 cap10243, .slice (some ⟨B10246, 0, none⟩) 0 cap10247, .int .i64 to]) rt_45 rfl rfl rfl (by simp [Value.oneCell']) k10340 (Nat.le_of_ble_eq_true rfl) rfl ?_
     intro w10341 hS10342
     have hb10343 := low1 hb10339 hS10342.grw (by omega)
     refine wpo_nil ?_
     refine wpf_ret ?_
     have k10344 := (((((((hO10249.grown0 hN10253.grw).grown hS10258.grw (some_ne (by omega))).grown hg10321 (some_ne (by omega))).grown hS10326.grw (some_ne (by omega))).grown hg10333 (some_ne (by omega))).grown hS10338.grw (some_ne (by omega))).grown hS10342.grw (some_ne (by omega)))
     have k10345 := (((((((hO10245.grown0 hN10253.grw).grown hS10258.grw (some_ne (by omega))).grown hg10321 (some_ne (by omega))).grown hS10326.grw (some_ne (by omega))).grown hg10333 (some_ne (by omega))).grown hS10338.grw (some_ne (by omega))).grown hS10342.grw (some_ne (by omega)))
     have k10346 := ((kR10332.grown hS10338.grw (some_ne (by omega))).grown hS10342.grw (some_ne (by omega)))
     refine ⟨.agg #[.int .i64 k, .int .i64 l9787.s, .int .i64 l9787.v, .int .i64 (k10329 / 2), .int .i64 k10317, .slice (some ⟨B10242, 0, none⟩) 0 cap10243, .slice (some ⟨B10246, 0, none⟩) 0 cap10247, .int .i64 to], resC rfl (resCell_mk (vs := [.int .i64 k, .int .i64 l9787.s, .int .i64 l9787.v, .int .i64 (k10329 / 2), .int .i64 k10317, .slice (some ⟨B10242, 0, none⟩) 0 cap10243, .slice (some ⟨B10246, 0, none⟩) 0 cap10247, .int .i64 to]) rt_45 rfl rfl (hS10342.blk.rangeL 0 8 rfl)), ⟨⟨k, l9787, k10329 / 2, k10317, ([] : List Rt), ([] : List Int), to⟩, some ⟨B10242, 0, none⟩, cap10243, some ⟨B10246, 0, none⟩, cap10247⟩, (p9788 + 1 + 1), rfl, ⟨OwnN.of k10344 hlB10246, ⟨([] : List Rt), OwnN.of k10345 hlB10242, rfl, ?_⟩, ?_, ?_, ⟨show (0 : Int) ≤ k10329 / 2 by omega, show k10329 / 2 ≤ (1 : Int) by omega⟩⟩, by omega, by omega, k10346, hb10343⟩
     ·
      intro x hx; first | (simp [zeros4] at hx; subst hx; exact ⟨by decide, by decide, by decide, by decide⟩) | simp at hx
     ·
      first | exact Nat.le_of_ble_eq_true rfl | omega | (simp only [List.length_nil]; omega)
     ·
      exact Nat.le_of_ble_eq_true rfl
    ·
     have h10347 := of_decide_eq_false h10314
     refine wpf_seq_region ?_
     refine wpo_eql (q := decide (k = 4)) rfl rfl rfl rfl ?_
     refine wpo_assign (v := .bool (decide (k = 4))) rfl rfl ?_
     refine wpo_nil ?_
     refine wpf_cond rfl (fun h10348 => ?_) (fun h10348 => ?_)
     ·
      have h10349 := of_decide_eq_true h10348
      refine wpf_seq_region ?_
      refine wpo_move (v := .pointer (some ⟨R, 0, none⟩)) rfl rfl ?_
      have k10350 := ((k10254.grown0 hN10253.grw).grown hS10258.grw (some_ne (by omega)))
      refine wpo_call (vs := [.pointer (some ⟨R, 0, none⟩), .int .i64 4]) gf_60 (args_cons rfl (args_cons rfl args_nil)) rfl (pick_c p9788 4 (by omega) _ R bs _ _ _ k10350 (by omega) (SlLt.low1 hs hb10259 hlo) (by first | exact hb | exact fun b h => hb b (List.mem_of_mem_take h)) (by first | omega | (rw [List.length_take]; omega))) ?_
      rintro _ w10356 ⟨k10351, rfl, hk10352, hk10353, kR10354, hg10355⟩
      have hb10357 := grown_trans hb10259 hg10355
      refine wpo_assign (v := .int .i64 k10351) rfl rfl ?_
      refine wpo_nil ?_
      refine wpf_block ?_
      have k10358 := (((hO10249.grown0 hN10253.grw).grown hS10258.grw (some_ne (by omega))).grown hg10355 (some_ne (by omega)))
      have k10359 := (((hO10245.grown0 hN10253.grw).grown hS10258.grw (some_ne (by omega))).grown hg10355 (some_ne (by omega)))
      have k10360 := (hS10258.blk.grown hg10355 (some_ne (by omega)))
      have k10361 := (((k10255.grown0 hN10253.grw).grown hS10258.grw (some_ne (by omega))).grown hg10355 (some_ne (by omega)))
      refine wpf_loopN (fun mm f' w' => ∃ (n : Int) (p1 : Int) (Bq : Nat) (cq : Nat) (ys : List Int), mm = n.toNat ∧ (0 ≤ n ∧ n ≤ 3) ∧ (p9788 + 1 ≤ p1 ∧ p1 ≤ (p9788 + 1) + 3 - n) ∧ (ys.length : Int) ≤ 3 - n ∧ Dw.Own w' Bq 3 1 cq ys.length (ys.flatMap icell) ∧ w.heap.size ≤ Bq ∧ R ≠ Bq ∧ B9782 ≠ Bq ∧ B10242 ≠ Bq ∧ B10251 ≠ Bq ∧ f' 9 = .int .i64 n ∧ f' 0 = .pointer (some ⟨R, 0, none⟩) ∧ f' 6 = .pointer (some ⟨B9782, 0, none⟩) ∧ f' 7 = .pointer (some ⟨B10251, 0, none⟩) ∧ w.grownBy w' (some R) ∧ Dw.Own w' B10242 29 5 cap10243 ([] : List Rt).length (([] : List Rt).flatMap Rt.cells) ∧ Blk w' B10251 45 #[.int .i64 k, .int .i64 l9787.s, .int .i64 l9787.v, .int .i64 0, .int .i64 0, .slice (some ⟨B10242, 0, none⟩) 0 cap10243, .slice (some ⟨Bq, 0, none⟩) ys.length cq, .int .i64 to] ∧ Blk w' B9782 45 #[.int .i64 0, .int .i64 0, .int .i64 0, .int .i64 0, .int .i64 0, .slice none 0 0, .slice none 0 0, .int .i64 0] ∧ Blk w' R 121 #[.slice a bs.length c, .int .i64 p1]) (k10351.toNat) ⟨k10351, (p9788 + 1), B10246, cap10247, ([] : List Int), rfl, (by omega), (by omega), (by simp only [List.length_nil]; omega), k10358, hlB10246, (by omega), (by omega), (by omega), (by omega), rfl, rfl, rfl, rfl, hb10357, k10359, k10360, k10361, kR10354⟩ ?_
      rintro mm f10362 w10363 ⟨n, p1, Bq, cq, ys, hm10365, hnn, hpp, hyl, hOwn, hlBq, hne0, hne1, hne2, hne3, e10366, e10367, e10368, e10369, hb10364, k10370, k10371, k10372, k10373⟩
      refine wpf_seq ?_
      refine wpf_seq_region ?_
      refine wpo_move (v := .int .i64 n) e10366 rfl ?_
      refine wpo_gtr (q := decide (0 < n)) rfl rfl rfl rfl ?_
      refine wpo_nil ?_
      refine wpf_cond rfl (fun h10374 => ?_) (fun h10374 => ?_)
      ·
       have h10375 := of_decide_eq_true h10374
       refine wpf_skip ?_
       refine thn_n ?_
       refine wpf_seq ?_
       refine wpf_block ?_
       refine wpf_drawI (m := 5) [[], [0], [], [2], [2, 3], [0, 1, 2, 3, 4], [0, 1, 2, 3, 4, 5], [0, 1, 2, 3, 4, 5, 6]] (fun S F w' => ∃ (k10465 : Int) (B10472 : Nat), w10363.grownBy w' (some R) ∧ F 0 = .pointer (some ⟨R, 0, none⟩) ∧ F 6 = .pointer (some ⟨B9782, 0, none⟩) ∧ F 7 = .pointer (some ⟨B10251, 0, none⟩) ∧ F 9 = .int .i64 n ∧ (S 3 = false → Blk w' R 121 #[.slice a bs.length c, .int .i64 p1]) ∧ (S 0 = true → F 45 = .pointer (some ⟨B10251, 6, none⟩)) ∧ (S 1 = true → F 46 = .slice (some ⟨Bq, 0, none⟩) ys.length cq) ∧ (S 2 = true → F 47 = .pointer (some ⟨R, 0, none⟩)) ∧ (S 3 = true → F 48 = .int .i64 k10465 ∧ 0 ≤ k10465 ∧ (k10465 < 20 ∨ k10465 = 0) ∧ Blk w' R 121 #[.slice a bs.length c, .int .i64 (p1 + 1)]) ∧ (S 4 = true → F 49 = .slice (some ⟨B10472, 0, none⟩) 1 1 ∧ w.heap.size ≤ B10472 ∧ Blk w' B10472 3 (([k10465] : List Int).flatMap icell).toArray ∧ B10242 < B10472 ∧ B10251 < B10472 ∧ B9782 < B10472 ∧ R < B10472 ∧ Bq < B10472 ∧ w10363.heap.size ≤ B10472)) mixed_ (by kernel_rfl) ⟨0, 0, grown_drew _, e10367, e10368, e10369, e10366, fun _ => (k10373).grown0 (grown_drew _), fun h => not_begun h, fun h => not_begun h, fun h => not_begun h, fun h => not_begun h, fun h => not_begun h⟩ ?_ ?_
       ·
        refine preL_cons (fun S F w10480 hS hbef hcl hI => ?_) ?_
        ·
         obtain ⟨k10465, B10472, hi10481, e10482, e10483, e10484, e10485, c_old_R, c_0, c_1, c_2, c_3, c_4⟩ := hI
         have hb10486 := grown_trans hb10364 hi10481
         refine wpo_fieldAddr (o' := 6) fo_45_5 e10484 rfl rfl ?_
         exact wpo_nil ⟨k10465, B10472, hi10481, e10482, e10483, e10484, e10485, fun h => c_old_R h, fun _ => rfl, fun h => undone 1 hS hcl rfl h, c_2, c_3, c_4⟩
        refine preL_cons (fun S F w10487 hS hbef hcl hI => ?_) ?_
        ·
         obtain ⟨k10465, B10472, hi10488, e10489, e10490, e10491, e10492, c_old_R, c_0, c_1, c_2, c_3, c_4⟩ := hI
         have hb10493 := grown_trans hb10364 hi10488
         obtain e10494 := c_0 (ready_of 0 hbef rfl)
         have k10495 := (k10371.grown hi10488 (some_ne (by omega)))
         refine wpo_load1 (v := .slice (some ⟨Bq, 0, none⟩) ys.length cq) ot_43 e10494 (k10495.cell rfl) rfl ?_
         exact wpo_nil ⟨k10465, B10472, hi10488, e10489, e10490, e10491, e10492, fun h => c_old_R h, c_0, fun _ => rfl, c_2, c_3, c_4⟩
        refine preL_cons (fun S F w10496 hS hbef hcl hI => ?_) ?_
        ·
         obtain ⟨k10465, B10472, hi10497, e10498, e10499, e10500, e10501, c_old_R, c_0, c_1, c_2, c_3, c_4⟩ := hI
         have hb10502 := grown_trans hb10364 hi10497
         refine wpo_move (v := .pointer (some ⟨R, 0, none⟩)) e10498 rfl ?_
         exact wpo_nil ⟨k10465, B10472, hi10497, e10498, e10499, e10500, e10501, fun h => c_old_R h, c_0, c_1, fun _ => rfl, fun h => undone 3 hS hcl rfl h, fun h => undone 4 hS hcl rfl h⟩
        refine preL_cons (fun S F w10503 hS hbef hcl hI => ?_) ?_
        ·
         obtain ⟨k10465, B10472, hi10504, e10505, e10506, e10507, e10508, c_old_R, c_0, c_1, c_2, c_3, c_4⟩ := hI
         have hb10509 := grown_trans hb10364 hi10504
         obtain e10510 := c_2 (ready_of 2 hbef rfl)
         refine wpo_call (vs := [.pointer (some ⟨R, 0, none⟩), .int .i64 20]) gf_60 (args_cons e10510 (args_cons rfl args_nil)) rfl (pick_c p1 20 (by omega) _ R bs _ _ _ (c_old_R hS) (by omega) (SlLt.low1 hs hb10509 hlo) (by first | exact hb | exact fun b h => hb b (List.mem_of_mem_take h)) (by first | omega | (rw [List.length_take]; omega))) ?_
         rintro _ w10516 ⟨k10511, rfl, hk10512, hk10513, kR10514, hg10515⟩
         have hb10517 := grown_trans hb10509 hg10515
         exact wpo_nil ⟨k10511, B10472, (grown_trans hi10504 hg10515), e10505, e10506, e10507, e10508, fun h => not_open h, c_0, c_1, c_2, fun _ => ⟨rfl, hk10512, hk10513, kR10514⟩, fun h => undone 4 hS hcl rfl h⟩
        refine preL_cons (fun S F w10518 hS hbef hcl hI => ?_) ?_
        ·
         obtain ⟨k10465, B10472, hi10519, e10520, e10521, e10522, e10523, c_old_R, c_0, c_1, c_2, c_3, c_4⟩ := hI
         have hb10524 := grown_trans hb10364 hi10519
         obtain e10525 := c_2 (ready_of 2 hbef rfl)
         obtain ⟨e10526, hk10466, hk10467, ks3_R⟩ := c_3 (ready_of 3 hbef rfl)
         refine wpo_buildSlice (ps := [(0, .int .i64 k10465)]) (e := 3) (cs := (([k10465] : List Int).flatMap icell).toArray) (parts_cons e10526 parts_nil) (fun _ => by kernel_rfl) rfl ?_
         intro B10527 w10528 hN10529
         have hlB10527 := hN_ge hN10529 hb10524
         have k10530 := (k10370.grown hi10519 (some_ne (by omega)))
         have lt_B10242_B10527 := hN_gtl hN10529 (k10530).lt
         have k10531 := (k10371.grown hi10519 (some_ne (by omega)))
         have lt_B10251_B10527 := hN_gtl hN10529 (k10531).lt
         have k10532 := (k10372.grown hi10519 (some_ne (by omega)))
         have lt_B9782_B10527 := hN_gtl hN10529 (k10532).lt
         have k10533 := (hOwn.grown hi10519 (some_ne (by omega)))
         have lt_Bq_B10527 := hN_gtl hN10529 (k10533).lt
         have lt_R_B10527 := hN_gtl hN10529 (ks3_R).lt
         have hb10534 := low0 hb10524 hN10529.grw
         exact wpo_nil ⟨k10465, B10527, (low0 hi10519 hN10529.grw), e10520, e10521, e10522, e10523, fun hn => not_open ((ready_of 3 hbef rfl).symm.trans hn), c_0, c_1, c_2, fun h => let ⟨y10535, y10536, y10537, y10538⟩ := c_3 h; ⟨y10535, y10536, y10537, (y10538).grown0 hN10529.grw⟩, fun _ => ⟨rfl, hlB10527, hN10529.blk, lt_B10242_B10527, lt_B10251_B10527, lt_B9782_B10527, (by omega), lt_Bq_B10527, (Nat.le_trans hi10519.size (Nat.le_of_eq hN10529.eq.symm))⟩⟩
        exact preL_nil
       ·
        intro S F w10539 hall hI
        obtain ⟨k10465, B10472, hi10540, e10541, e10542, e10543, e10544, c_old_R, c_0, c_1, c_2, c_3, c_4⟩ := hI
        have hb10545 := grown_trans hb10364 hi10540
        obtain e10546 := c_0 (hall 0 (by decide))
        obtain e10547 := c_1 (hall 1 (by decide))
        obtain e10548 := c_2 (hall 2 (by decide))
        obtain ⟨e10549, hk10466, hk10467, ks3_R⟩ := c_3 (hall 3 (by decide))
        obtain ⟨e10550, hlB10472, kb_B10472, lt_B10242_B10472, lt_B10251_B10472, lt_B9782_B10472, lt_R_B10472, lt_Bq_B10472, hk_B10472⟩ := c_4 (hall 4 (by decide))
        have k10551 := (hOwn.grown hi10540 (some_ne (by omega)))
        have k10552 := (k10370.grown hi10540 (some_ne (by omega)))
        have k10553 := (k10371.grown hi10540 (some_ne (by omega)))
        have k10554 := (k10372.grown hi10540 (some_ne (by omega)))
        refine wpo_append (g := icell) (ys := ys) (zs := ([k10465] : List Int)) mk_43 rfl wide_int (by omega) onec_int e10547 e10550 k10551 (rows_sl wide_int kb_B10472) (by simp only [List.length_cons, List.length_nil]; omega) (by omega) rfl ?_
        intro B10555 cap10556 w10557 hO10558 hg10559 hor10560
        have hlB10555 : w.heap.size ≤ B10555 := by rcases hor10560 with h | h; (rw [h]; exact hlBq); (rw [h]; exact hb10545.size)
        have ne_B10242_B10555 : B10242 ≠ B10555 := by have h := (k10552).lt; omega
        have ne_B10251_B10555 : B10251 ≠ B10555 := by have h := (k10553).lt; omega
        have ne_B9782_B10555 : B9782 ≠ B10555 := by have h := (k10554).lt; omega
        have ne_R_B10555 : R ≠ B10555 := by have h := (ks3_R).lt; omega
        have ne_B10472_B10555 : B10472 ≠ B10555 := by have h := (kb_B10472).lt; omega
        have hb10561 := low1 hb10545 hg10559 (by omega)
        refine wpo_fieldAddr (o' := 6) fo_45_5 e10543 rfl rfl ?_
        have k10562 := (k10553.grown hg10559 (some_ne (by omega)))
        refine wpo_store1 (v := .slice (some ⟨B10555, 0, none⟩) ((ys ++ ([k10465] : List Int)).length) cap10556) (cs' := #[.int .i64 k, .int .i64 l9787.s, .int .i64 l9787.v, .int .i64 0, .int .i64 0, .slice (some ⟨B10242, 0, none⟩) 0 cap10243, .slice (some ⟨B10555, 0, none⟩) ((ys ++ ([k10465] : List Int)).length) cap10556, .int .i64 to]) ot_43 rfl rfl rfl k10562 (Nat.le_of_ble_eq_true rfl) rfl ?_
        intro w10563 hS10564
        have hb10565 := low1 hb10561 hS10564.grw (by omega)
        refine wpo_nil ?_
        refine blk_n ?_
        refine thn_n ?_
        refine wpf_region ?_
        refine wpo_move (v := .int .i64 n) e10544 rfl ?_
        refine wpo_sub (c := n - 1) rfl rfl (by omega) (by omega) (by omega) rfl ?_
        refine wpo_assign (v := .int .i64 (n - 1)) rfl rfl ?_
        refine wpo_nil ?_
        refine thn_n ?_
        have k10566 := (hO10558.grown hS10564.grw (some_ne (by omega)))
        have k10567 := ((k10552.grown hg10559 (some_ne (by omega))).grown hS10564.grw (some_ne (by omega)))
        have k10568 := ((k10554.grown hg10559 (some_ne (by omega))).grown hS10564.grw (some_ne (by omega)))
        have k10569 := ((ks3_R.grown hg10559 (some_ne (by omega))).grown hS10564.grw (some_ne (by omega)))
        exact ⟨(n - 1).toNat, by omega, (n - 1), (p1 + 1), B10555, cap10556, (ys ++ ([k10465] : List Int)), rfl, (by omega), (by omega), (by simp only [List.length_append, List.length_cons, List.length_nil]; omega), k10566, hlB10555, (by omega), (by omega), (by omega), (by omega), rfl, e10541, e10542, e10543, hb10565, k10567, hS10564.blk, k10568, k10569⟩
      ·
       have h10570 := of_decide_eq_false h10374
       refine wpf_exit ?_
       refine thn_e ?_
       refine thn_e ?_
       refine blk_e ?_
       refine blk_n ?_
       refine thn_n ?_
       refine wpf_seq_region ?_
       refine wpo_loadn (vs := [.int .i64 k, .int .i64 l9787.s, .int .i64 l9787.v, .int .i64 0, .int .i64 0, .slice (some ⟨B10242, 0, none⟩) 0 cap10243, .slice (some ⟨Bq, 0, none⟩) ys.length cq, .int .i64 to]) rt_45 e10369 rfl (k10371.rangeL 0 8 rfl) rfl ?_
       refine wpo_storen (vs := [.int .i64 k, .int .i64 l9787.s, .int .i64 l9787.v, .int .i64 0, .int .i64 0, .slice (some ⟨B10242, 0, none⟩) 0 cap10243, .slice (some ⟨Bq, 0, none⟩) ys.length cq, .int .i64 to]) (cs' := #[.int .i64 k, .int .i64 l9787.s, .int .i64 l9787.v, .int .i64 0, .int .i64 0, .slice (some ⟨B10242, 0, none⟩) 0 cap10243, .slice (some ⟨Bq, 0, none⟩) ys.length cq, .int .i64 to]) rt_45 e10368 rfl rfl (by simp [Value.oneCell']) k10372 (Nat.le_of_ble_eq_true rfl) rfl ?_
       intro w10571 hS10572
       have hb10573 := low1 hb10364 hS10572.grw (by omega)
       refine wpo_nil ?_
       refine wpf_ret ?_
       have k10574 := (hOwn.grown hS10572.grw (some_ne (by omega)))
       have k10575 := (k10370.grown hS10572.grw (some_ne (by omega)))
       have k10576 := (k10373.grown hS10572.grw (some_ne (by omega)))
       refine ⟨.agg #[.int .i64 k, .int .i64 l9787.s, .int .i64 l9787.v, .int .i64 0, .int .i64 0, .slice (some ⟨B10242, 0, none⟩) 0 cap10243, .slice (some ⟨Bq, 0, none⟩) ys.length cq, .int .i64 to], resC rfl (resCell_mk (vs := [.int .i64 k, .int .i64 l9787.s, .int .i64 l9787.v, .int .i64 0, .int .i64 0, .slice (some ⟨B10242, 0, none⟩) 0 cap10243, .slice (some ⟨Bq, 0, none⟩) ys.length cq, .int .i64 to]) rt_45 e10368 rfl (hS10572.blk.rangeL 0 8 rfl)), ⟨⟨k, l9787, 0, 0, ([] : List Rt), ys, to⟩, some ⟨B10242, 0, none⟩, cap10243, some ⟨Bq, 0, none⟩, cq⟩, p1, rfl, ⟨OwnN.of k10574 hlBq, ⟨([] : List Rt), OwnN.of k10575 hlB10242, rfl, ?_⟩, ?_, ?_, ⟨show (0 : Int) ≤ 0 by omega, show 0 ≤ (1 : Int) by omega⟩⟩, by omega, by omega, k10576, hb10573⟩
       ·
        intro x hx; first | (simp [zeros4] at hx; subst hx; exact ⟨by decide, by decide, by decide, by decide⟩) | simp at hx
       ·
        first | exact Nat.le_of_ble_eq_true rfl | omega | (simp only [List.length_nil]; omega)
       ·
        exact Nat.le_of_ble_eq_true rfl
     ·
      have h10577 := of_decide_eq_false h10348
      refine wpf_seq_region ?_
      refine wpo_eql (q := decide (k = 3)) rfl rfl rfl rfl ?_
      refine wpo_assign (v := .bool (decide (k = 3))) rfl rfl ?_
      refine wpo_nil ?_
      refine wpf_condf rfl h10235 ?_
      refine wpf_skip ?_
      refine blk_n ?_
      refine thn_n ?_
      refine wpf_seq_region ?_
      refine wpo_loadn (vs := [.int .i64 k, .int .i64 l9787.s, .int .i64 l9787.v, .int .i64 0, .int .i64 0, .slice (some ⟨B10242, 0, none⟩) 0 cap10243, .slice (some ⟨B10246, 0, none⟩) 0 cap10247, .int .i64 to]) rt_45 rfl rfl (hS10258.blk.rangeL 0 8 rfl) rfl ?_
      have k10578 := ((k10255.grown0 hN10253.grw).grown hS10258.grw (some_ne (by omega)))
      refine wpo_storen (vs := [.int .i64 k, .int .i64 l9787.s, .int .i64 l9787.v, .int .i64 0, .int .i64 0, .slice (some ⟨B10242, 0, none⟩) 0 cap10243, .slice (some ⟨B10246, 0, none⟩) 0 cap10247, .int .i64 to]) (cs' := #[.int .i64 k, .int .i64 l9787.s, .int .i64 l9787.v, .int .i64 0, .int .i64 0, .slice (some ⟨B10242, 0, none⟩) 0 cap10243, .slice (some ⟨B10246, 0, none⟩) 0 cap10247, .int .i64 to]) rt_45 rfl rfl rfl (by simp [Value.oneCell']) k10578 (Nat.le_of_ble_eq_true rfl) rfl ?_
      intro w10579 hS10580
      have hb10581 := low1 hb10259 hS10580.grw (by omega)
      refine wpo_nil ?_
      refine wpf_ret ?_
      have k10582 := (((hO10249.grown0 hN10253.grw).grown hS10258.grw (some_ne (by omega))).grown hS10580.grw (some_ne (by omega)))
      have k10583 := (((hO10245.grown0 hN10253.grw).grown hS10258.grw (some_ne (by omega))).grown hS10580.grw (some_ne (by omega)))
      have k10584 := (((k10254.grown0 hN10253.grw).grown hS10258.grw (some_ne (by omega))).grown hS10580.grw (some_ne (by omega)))
      refine ⟨.agg #[.int .i64 k, .int .i64 l9787.s, .int .i64 l9787.v, .int .i64 0, .int .i64 0, .slice (some ⟨B10242, 0, none⟩) 0 cap10243, .slice (some ⟨B10246, 0, none⟩) 0 cap10247, .int .i64 to], resC rfl (resCell_mk (vs := [.int .i64 k, .int .i64 l9787.s, .int .i64 l9787.v, .int .i64 0, .int .i64 0, .slice (some ⟨B10242, 0, none⟩) 0 cap10243, .slice (some ⟨B10246, 0, none⟩) 0 cap10247, .int .i64 to]) rt_45 rfl rfl (hS10580.blk.rangeL 0 8 rfl)), ⟨⟨k, l9787, 0, 0, ([] : List Rt), ([] : List Int), to⟩, some ⟨B10242, 0, none⟩, cap10243, some ⟨B10246, 0, none⟩, cap10247⟩, p9788, rfl, ⟨OwnN.of k10582 hlB10246, ⟨([] : List Rt), OwnN.of k10583 hlB10242, rfl, ?_⟩, ?_, ?_, ⟨show (0 : Int) ≤ 0 by omega, show 0 ≤ (1 : Int) by omega⟩⟩, by omega, by omega, k10584, hb10581⟩
      ·
       intro x hx; first | (simp [zeros4] at hx; subst hx; exact ⟨by decide, by decide, by decide, by decide⟩) | simp at hx
      ·
       first | exact Nat.le_of_ble_eq_true rfl | omega | (simp only [List.length_nil]; omega)
      ·
       exact Nat.le_of_ble_eq_true rfl
  ·
   have k10585 := (hN9784.blk.grown hg9796 (some_ne (by omega)))
   have h10586 : thingOk (⟨k, l9787, 0, 0, [], [], to⟩ : Th) = false := (newOk_n h9799).symm.trans h10237
   refine wpo_call (vs := [.int .i64 k, .agg #[.int .i64 l9787.s, .int .i64 l9787.v], .int .i64 to]) gf_23 (args_cons rfl (args_cons rfl (args_cons rfl args_nil))) rfl (sThingNew_nf k to l9787 h9799 h10237 _) ?_
   rintro _ w10587 ⟨rfl, hg10588⟩
   have hb10589 := low0 hb9798 hg10588
   refine wpo_move (v := .tuple #[.agg #[.int .i64 0, .int .i64 0, .int .i64 0, .int .i64 0, .int .i64 0, .slice none 0 0, .slice none 0 0, .int .i64 0], .bool false]) rfl rfl ?_
   refine wpo_extract (v := .agg #[.int .i64 0, .int .i64 0, .int .i64 0, .int .i64 0, .int .i64 0, .slice none 0 0, .slice none 0 0, .int .i64 0]) rfl rfl rfl ?_
   refine wpo_extract (v := .bool false) rfl rfl rfl ?_
   refine wpo_alloc (cs := #[.int .i64 0, .int .i64 0, .int .i64 0, .int .i64 0, .int .i64 0, .slice none 0 0, .slice none 0 0, .int .i64 0]) zt_45 rfl rfl ?_
   intro B10590 w10591 hN10592
   have hlB10590 := hN_ge hN10592 hb10589
   have k10593 := (kR9795.grown0 hg10588)
   have lt_R_B10590 := hN_gtl hN10592 (k10593).lt
   have k10594 := (k10585.grown0 hg10588)
   have lt_B9782_B10590 := hN_gtl hN10592 (k10594).lt
   have hb10595 := low0 hb10589 hN10592.grw
   refine wpo_storen (vs := [.int .i64 0, .int .i64 0, .int .i64 0, .int .i64 0, .int .i64 0, .slice none 0 0, .slice none 0 0, .int .i64 0]) (cs' := #[.int .i64 0, .int .i64 0, .int .i64 0, .int .i64 0, .int .i64 0, .slice none 0 0, .slice none 0 0, .int .i64 0]) rt_45 rfl rfl rfl (by simp [Value.oneCell']) hN10592.blk (Nat.le_of_ble_eq_true rfl) rfl ?_
   intro w10596 hS10597
   have hb10598 := low1 hb10595 hS10597.grw (by omega)
   refine wpo_assign (v := .bool false) rfl rfl ?_
   refine wpo_nil ?_
   refine wpf_seq ?_
   refine wpf_seq_region ?_
   refine wpo_fieldAddr (o' := 0) fo_45_0 rfl rfl rfl ?_
   refine wpo_load1 (v := .int .i64 0) ot_3 rfl (hS10597.blk.cell rfl) rfl ?_
   refine wpo_eql (q := true) rfl rfl (by decide) rfl ?_
   refine wpo_nil ?_
   refine wpf_condt rfl rfl ?_
   refine wpf_region ?_
   refine wpo_build (ps := []) (v := .agg #[.int .i64 0, .int .i64 0]) parts_nil (by kernel_rfl) rfl ?_
   have k10599 := ((k10593.grown0 hN10592.grw).grown hS10597.grw (some_ne (by omega)))
   have k10600 := ((k10594.grown0 hN10592.grw).grown hS10597.grw (some_ne (by omega)))
   have h10601 : thingOk (⟨1, ⟨0, 0⟩, 0, 0, [], [], 0⟩ : Th) = true := (newOk_n (by decide)).symm.trans (by decide)
   refine wpo_call (vs := [.int .i64 1, .agg #[.int .i64 0, .int .i64 0], .int .i64 0]) gf_23 (args_cons rfl (args_cons rfl (args_cons rfl args_nil))) rfl (sThingNew_nt 1 0 ⟨0, 0⟩ (by decide) (by decide) _) ?_
   rintro _ w10602 ⟨B10604, cap10605, B10608, cap10609, rfl, hge10606, hO10607, hge10610, hO10611, ne_B10604_B10608, hg10603⟩
   have hb10612 := low0 hb10598 hg10603
   have hlB10604 := Nat.le_trans hb10598.size hge10606
   have lt_R_B10604 := Nat.lt_of_lt_of_le (k10599).lt hge10606
   have lt_B9782_B10604 := Nat.lt_of_lt_of_le (k10600).lt hge10606
   have lt_B10590_B10604 := Nat.lt_of_lt_of_le (hS10597.blk).lt hge10606
   have hlB10608 := Nat.le_trans hb10598.size hge10610
   have lt_R_B10608 := Nat.lt_of_lt_of_le (k10599).lt hge10610
   have lt_B9782_B10608 := Nat.lt_of_lt_of_le (k10600).lt hge10610
   have lt_B10590_B10608 := Nat.lt_of_lt_of_le (hS10597.blk).lt hge10610
   refine wpo_move (v := .tuple #[.agg #[.int .i64 1, .int .i64 0, .int .i64 0, .int .i64 0, .int .i64 0, .slice (some ⟨B10604, 0, none⟩) 0 cap10605, .slice (some ⟨B10608, 0, none⟩) 0 cap10609, .int .i64 0], .bool true]) rfl rfl ?_
   refine wpo_extract (v := .agg #[.int .i64 1, .int .i64 0, .int .i64 0, .int .i64 0, .int .i64 0, .slice (some ⟨B10604, 0, none⟩) 0 cap10605, .slice (some ⟨B10608, 0, none⟩) 0 cap10609, .int .i64 0]) rfl rfl rfl ?_
   refine wpo_extract (v := .bool true) rfl rfl rfl ?_
   have k10613 := (hS10597.blk.grown0 hg10603)
   refine wpo_storen (vs := [.int .i64 1, .int .i64 0, .int .i64 0, .int .i64 0, .int .i64 0, .slice (some ⟨B10604, 0, none⟩) 0 cap10605, .slice (some ⟨B10608, 0, none⟩) 0 cap10609, .int .i64 0]) (cs' := #[.int .i64 1, .int .i64 0, .int .i64 0, .int .i64 0, .int .i64 0, .slice (some ⟨B10604, 0, none⟩) 0 cap10605, .slice (some ⟨B10608, 0, none⟩) 0 cap10609, .int .i64 0]) rt_45 rfl rfl rfl (by simp [Value.oneCell']) k10613 (Nat.le_of_ble_eq_true rfl) rfl ?_
   intro w10614 hS10615
   have hb10616 := low1 hb10612 hS10615.grw (by omega)
   refine wpo_nil ?_
   refine thn_n ?_
   refine wpf_seq ?_
   refine wpf_seq_region ?_
   refine wpo_fieldAddr (o' := 0) fo_45_0 rfl rfl rfl ?_
   refine wpo_load1 (v := .int .i64 1) ot_3 rfl (hS10615.blk.cell rfl) rfl ?_
   refine wpo_nil ?_
   refine wpf_block ?_
   refine wpf_seq_region ?_
   refine wpo_eql (q := true) rfl rfl (by decide) rfl ?_
   refine wpo_assign (v := .bool true) rfl rfl ?_
   refine wpo_nil ?_
   refine wpf_condt rfl rfl ?_
   refine wpf_seq_region ?_
   refine wpo_move (v := .pointer (some ⟨R, 0, none⟩)) rfl rfl ?_
   have k10617 := ((k10599.grown0 hg10603).grown hS10615.grw (some_ne (by omega)))
   refine wpo_call (vs := [.pointer (some ⟨R, 0, none⟩), .int .i64 20]) gf_60 (args_cons rfl (args_cons rfl args_nil)) rfl (pick_c p9788 20 (by omega) _ R bs _ _ _ k10617 (by omega) (SlLt.low1 hs hb10616 hlo) (by first | exact hb | exact fun b h => hb b (List.mem_of_mem_take h)) (by first | omega | (rw [List.length_take]; omega))) ?_
   rintro _ w10623 ⟨k10618, rfl, hk10619, hk10620, kR10621, hg10622⟩
   have hb10624 := grown_trans hb10616 hg10622
   refine wpo_fieldAddr (o' := 4) fo_45_3 rfl rfl rfl ?_
   have k10625 := (hS10615.blk.grown hg10622 (some_ne (by omega)))
   refine wpo_store1 (v := .int .i64 k10618) (cs' := #[.int .i64 1, .int .i64 0, .int .i64 0, .int .i64 0, .int .i64 k10618, .slice (some ⟨B10604, 0, none⟩) 0 cap10605, .slice (some ⟨B10608, 0, none⟩) 0 cap10609, .int .i64 0]) ot_3 rfl rfl rfl k10625 (Nat.le_of_ble_eq_true rfl) rfl ?_
   intro w10626 hS10627
   have hb10628 := low1 hb10624 hS10627.grw (by omega)
   refine wpo_nil ?_
   refine wpf_region ?_
   refine wpo_move (v := .pointer (some ⟨R, 0, none⟩)) rfl rfl ?_
   have k10629 := (kR10621.grown hS10627.grw (some_ne (by omega)))
   refine wpo_call (vs := [.pointer (some ⟨R, 0, none⟩), .int .i64 3]) gf_60 (args_cons rfl (args_cons rfl args_nil)) rfl (pick_c (p9788 + 1) 3 (by omega) _ R bs _ _ _ k10629 (by omega) (SlLt.low1 hs hb10628 hlo) (by first | exact hb | exact fun b h => hb b (List.mem_of_mem_take h)) (by first | omega | (rw [List.length_take]; omega))) ?_
   rintro _ w10635 ⟨k10630, rfl, hk10631, hk10632, kR10633, hg10634⟩
   have hb10636 := grown_trans hb10628 hg10634
   refine wpo_quo (c := k10630 / 2) rfl rfl (by omega) (by omega) (by omega) rfl rfl ?_
   refine wpo_fieldAddr (o' := 3) fo_45_2 rfl rfl rfl ?_
   have k10637 := (hS10627.blk.grown hg10634 (some_ne (by omega)))
   refine wpo_store1 (v := .int .i64 (k10630 / 2)) (cs' := #[.int .i64 1, .int .i64 0, .int .i64 0, .int .i64 (k10630 / 2), .int .i64 k10618, .slice (some ⟨B10604, 0, none⟩) 0 cap10605, .slice (some ⟨B10608, 0, none⟩) 0 cap10609, .int .i64 0]) ot_3 rfl rfl rfl k10637 (Nat.le_of_ble_eq_true rfl) rfl ?_
   intro w10638 hS10639
   have hb10640 := low1 hb10636 hS10639.grw (by omega)
   refine wpo_nil ?_
   refine blk_n ?_
   refine thn_n ?_
   refine wpf_seq_region ?_
   refine wpo_loadn (vs := [.int .i64 1, .int .i64 0, .int .i64 0, .int .i64 (k10630 / 2), .int .i64 k10618, .slice (some ⟨B10604, 0, none⟩) 0 cap10605, .slice (some ⟨B10608, 0, none⟩) 0 cap10609, .int .i64 0]) rt_45 rfl rfl (hS10639.blk.rangeL 0 8 rfl) rfl ?_
   have k10641 := ((((((k10600.grown0 hg10603).grown hS10615.grw (some_ne (by omega))).grown hg10622 (some_ne (by omega))).grown hS10627.grw (some_ne (by omega))).grown hg10634 (some_ne (by omega))).grown hS10639.grw (some_ne (by omega)))
   refine wpo_storen (vs := [.int .i64 1, .int .i64 0, .int .i64 0, .int .i64 (k10630 / 2), .int .i64 k10618, .slice (some ⟨B10604, 0, none⟩) 0 cap10605, .slice (some ⟨B10608, 0, none⟩) 0 cap10609, .int .i64 0]) (cs' := #[.int .i64 1, .int .i64 0, .int .i64 0, .int .i64 (k10630 / 2), .int .i64 k10618, .slice (some ⟨B10604, 0, none⟩) 0 cap10605, .slice (some ⟨B10608, 0, none⟩) 0 cap10609, .int .i64 0]) rt_45 rfl rfl rfl (by simp [Value.oneCell']) k10641 (Nat.le_of_ble_eq_true rfl) rfl ?_
   intro w10642 hS10643
   have hb10644 := low1 hb10640 hS10643.grw (by omega)
   refine wpo_nil ?_
   refine wpf_ret ?_
   have k10645 := ((((((hO10611.grown hS10615.grw (some_ne (by omega))).grown hg10622 (some_ne (by omega))).grown hS10627.grw (some_ne (by omega))).grown hg10634 (some_ne (by omega))).grown hS10639.grw (some_ne (by omega))).grown hS10643.grw (some_ne (by omega)))
   have k10646 := ((((((hO10607.grown hS10615.grw (some_ne (by omega))).grown hg10622 (some_ne (by omega))).grown hS10627.grw (some_ne (by omega))).grown hg10634 (some_ne (by omega))).grown hS10639.grw (some_ne (by omega))).grown hS10643.grw (some_ne (by omega)))
   have k10647 := ((kR10633.grown hS10639.grw (some_ne (by omega))).grown hS10643.grw (some_ne (by omega)))
   refine ⟨.agg #[.int .i64 1, .int .i64 0, .int .i64 0, .int .i64 (k10630 / 2), .int .i64 k10618, .slice (some ⟨B10604, 0, none⟩) 0 cap10605, .slice (some ⟨B10608, 0, none⟩) 0 cap10609, .int .i64 0], resC rfl (resCell_mk (vs := [.int .i64 1, .int .i64 0, .int .i64 0, .int .i64 (k10630 / 2), .int .i64 k10618, .slice (some ⟨B10604, 0, none⟩) 0 cap10605, .slice (some ⟨B10608, 0, none⟩) 0 cap10609, .int .i64 0]) rt_45 rfl rfl (hS10643.blk.rangeL 0 8 rfl)), ⟨⟨1, ⟨0, 0⟩, k10630 / 2, k10618, ([] : List Rt), ([] : List Int), 0⟩, some ⟨B10604, 0, none⟩, cap10605, some ⟨B10608, 0, none⟩, cap10609⟩, (p9788 + 1 + 1), rfl, ⟨OwnN.of k10645 hlB10608, ⟨([] : List Rt), OwnN.of k10646 hlB10604, rfl, ?_⟩, ?_, ?_, ⟨show (0 : Int) ≤ k10630 / 2 by omega, show k10630 / 2 ≤ (1 : Int) by omega⟩⟩, by omega, by omega, k10647, hb10644⟩
   ·
    intro x hx; first | (simp [zeros4] at hx; subst hx; exact ⟨by decide, by decide, by decide, by decide⟩) | simp at hx
   ·
    first | exact Nat.le_of_ble_eq_true rfl | omega | (simp only [List.length_nil]; omega)
   ·
    exact Nat.le_of_ble_eq_true rfl

theorem l71Table_c (p : Int) (hp : 0 ≤ p ∧ p ≤ 999999990000) (lo R : Nat) (bs : List Int) (a : Option Addr) (c : Nat) (w : World) (hR : Blk w R 121 #[.slice a bs.length c, .int .i64 p]) (hlo : lo ≤ R) (hs : SlLt lo w a 1 (bs.map bcell)) (hb : ∀ b ∈ bs, 0 ≤ b ∧ b ≤ 255) (hn : bs.length ≤ 1048576) : CallsR Try.prog 102 #[.pointer (some ⟨R, 0, none⟩)] w (fun v w' => ∃ (B cap : Nat) (ms : List MTh) (p' : Int), v = .slice (some ⟨B, 0, none⟩) ms.length cap ∧ TabG w.heap.size w' (some ⟨B, 0, none⟩) ms ∧ Small ms ∧ (3 ≤ ms.length ∧ ms.length ≤ 8) ∧ p ≤ p' ∧ p' ≤ p + 600 ∧ Blk w' R 121 #[.slice a bs.length c, .int .i64 p'] ∧ w.grownBy w' (some R)) := by
 refine calls_of_wpf (n := 142) Try.func102 rfl Try.ntmps102 rfl ?_
 have hb0 := World.grownBy.refl w (some R)
 have hRlt := hR.lt
 refine wpf_seq_region ?_
 refine wpo_assign (v := .slice none 0 0) rfl rfl ?_
 refine wpo_nil ?_
 refine wpf_seq_region ?_
 refine wpo_buildSlice (ps := [(0, .int .i64 1), (1, .int .i64 3), (2, .int .i64 3)]) (e := 3) (cs := (([1, 3, 3] : List Int).flatMap icell).toArray) (parts_cons rfl (parts_cons rfl (parts_cons rfl parts_nil))) (fun _ => by kernel_rfl) rfl ?_
 intro B10648 w10649 hN10650
 have hlB10648 := hN_ge hN10650 hb0
 have lt_R_B10648 := hN_gtl hN10650 (hR).lt
 have hb10651 := low0 hb0 hN10650.grw
 refine wpo_assign (v := .slice (some ⟨B10648, 0, none⟩) 3 3) rfl rfl ?_
 refine wpo_nil ?_
 refine wpf_seq ?_
 refine wpf_seq_region ?_
 refine wpo_move (v := .pointer (some ⟨R, 0, none⟩)) rfl rfl ?_
 have k10652 := (hR.grown0 hN10650.grw)
 refine wpo_call (vs := [.pointer (some ⟨R, 0, none⟩), .int .i64 6]) gf_60 (args_cons rfl (args_cons rfl args_nil)) rfl (pick_c p 6 (by omega) _ R bs _ _ _ k10652 (by omega) (SlLt.low1 hs hb10651 hlo) (by first | exact hb | exact fun b h => hb b (List.mem_of_mem_take h)) (by first | omega | (rw [List.length_take]; omega))) ?_
 rintro _ w10658 ⟨k10653, rfl, hk10654, hk10655, kR10656, hg10657⟩
 have hb10659 := grown_trans hb10651 hg10657
 refine wpo_assign (v := .int .i64 k10653) rfl rfl ?_
 refine wpo_nil ?_
 refine wpf_block ?_
 have k10660 := (hN10650.blk.grown hg10657 (some_ne (by omega)))
 refine wpf_loopN (fun mm f' w' => ∃ (n : Int) (p1 : Int) (Bk : Nat) (ck : Nat) (ks : List Int), mm = n.toNat ∧ (0 ≤ n ∧ n ≤ 5) ∧ (p ≤ p1 ∧ p1 ≤ p + 6 - n) ∧ (3 ≤ ks.length ∧ (ks.length : Int) ≤ 8 - n) ∧ (∀ y ∈ ks, 1 ≤ y ∧ y ≤ 5) ∧ Dw.Own w' Bk 3 1 ck ks.length (ks.flatMap icell) ∧ w.heap.size ≤ Bk ∧ R ≠ Bk ∧ f' 3 = .slice (some ⟨Bk, 0, none⟩) ks.length ck ∧ f' 4 = .int .i64 n ∧ f' 0 = .pointer (some ⟨R, 0, none⟩) ∧ f' 2 = .slice none 0 0 ∧ w.grownBy w' (some R) ∧ Blk w' R 121 #[.slice a bs.length c, .int .i64 p1]) (k10653.toNat) ⟨k10653, (p + 1), B10648, 3, ([1, 3, 3] : List Int), rfl, (by omega), (by omega), (by simp only [List.length_nil, List.length_cons]; omega), (by intro y hy; simp at hy; omega), (Own.rows wide_int k10660 (by simp)), hlB10648, (by omega), rfl, rfl, rfl, rfl, hb10659, kR10656⟩ ?_
 rintro mm f10661 w10662 ⟨n, p1, Bk, ck, ks, hm10664, hnn, hpp, hkl, hks, hOk, hlBk, hne0, e10665, e10666, e10667, e10668, hb10663, k10669⟩
 refine wpf_seq ?_
 refine wpf_seq_region ?_
 refine wpo_move (v := .int .i64 n) e10666 rfl ?_
 refine wpo_gtr (q := decide (0 < n)) rfl rfl rfl rfl ?_
 refine wpo_nil ?_
 refine wpf_cond rfl (fun h10670 => ?_) (fun h10670 => ?_)
 ·
  have h10671 := of_decide_eq_true h10670
  refine wpf_skip ?_
  refine thn_n ?_
  refine wpf_seq ?_
  refine wpf_block ?_
  refine wpf_region ?_
  refine wpo_move (v := .slice (some ⟨Bk, 0, none⟩) ks.length ck) e10665 rfl ?_
  refine wpo_buildSlice (ps := [(0, .int .i64 1), (1, .int .i64 2), (2, .int .i64 2), (3, .int .i64 3), (4, .int .i64 4), (5, .int .i64 5)]) (e := 3) (cs := (([1, 2, 2, 3, 4, 5] : List Int).flatMap icell).toArray) (parts_cons rfl (parts_cons rfl (parts_cons rfl (parts_cons rfl (parts_cons rfl (parts_cons rfl parts_nil)))))) (fun _ => by kernel_rfl) rfl ?_
  intro B10672 w10673 hN10674
  have hlB10672 := hN_ge hN10674 hb10663
  have lt_R_B10672 := hN_gtl hN10674 (k10669).lt
  have lt_Bk_B10672 := hN_gtl hN10674 (hOk).lt
  have hb10675 := low0 hb10663 hN10674.grw
  refine wpo_move (v := .pointer (some ⟨R, 0, none⟩)) e10667 rfl ?_
  have k10676 := (k10669.grown0 hN10674.grw)
  refine wpo_call (vs := [.pointer (some ⟨R, 0, none⟩), .int .i64 6]) gf_60 (args_cons rfl (args_cons rfl args_nil)) rfl (pick_c p1 6 (by omega) _ R bs _ _ _ k10676 (by omega) (SlLt.low1 hs hb10675 hlo) (by first | exact hb | exact fun b h => hb b (List.mem_of_mem_take h)) (by first | omega | (rw [List.length_take]; omega))) ?_
  rintro _ w10682 ⟨k10677, rfl, hk10678, hk10679, kR10680, hg10681⟩
  have hb10683 := grown_trans hb10675 hg10681
  refine wpo_indexAddr (o' := (k10677).toNat * 1) es_43 rfl rfl (by omega) (by omega) (by omega) rfl ?_
  have k10684 := (hN10674.blk.grown hg10681 (some_ne (by omega)))
  obtain ⟨x10685, hx10686⟩ := get_lt (l := ([1, 2, 2, 3, 4, 5] : List Int)) (i := (k10677).toNat) (show (k10677).toNat < 6 by omega)
  have hm10687 := List.mem_of_getElem? hx10686
  simp only [List.mem_cons, List.not_mem_nil, or_false] at hm10687
  refine wpo_load1 (v := .int .i64 x10685) ot_3 rfl ((rows_range wide_int k10684 hx10686) 0 _ rfl) rfl ?_
  refine wpo_buildSlice (ps := [(0, .int .i64 x10685)]) (e := 3) (cs := (([x10685] : List Int).flatMap icell).toArray) (parts_cons rfl parts_nil) (fun _ => by kernel_rfl) rfl ?_
  intro B10688 w10689 hN10690
  have hlB10688 := hN_ge hN10690 hb10683
  have lt_R_B10688 := hN_gtl hN10690 (kR10680).lt
  have k10691 := ((hOk.grown0 hN10674.grw).grown hg10681 (some_ne (by omega)))
  have lt_Bk_B10688 := hN_gtl hN10690 (k10691).lt
  have lt_B10672_B10688 := hN_gtl hN10690 (k10684).lt
  have hb10692 := low0 hb10683 hN10690.grw
  have k10693 := (k10691.grown0 hN10690.grw)
  have k10694 := (kR10680.grown0 hN10690.grw)
  have k10695 := (k10684.grown0 hN10690.grw)
  refine wpo_append (g := icell) (ys := ks) (zs := ([x10685] : List Int)) mk_43 rfl wide_int (by omega) onec_int rfl rfl k10693 (rows_sl wide_int hN10690.blk) (by simp only [List.length_cons, List.length_nil]; omega) (by omega) rfl ?_
  intro B10696 cap10697 w10698 hO10699 hg10700 hor10701
  have hlB10696 : w.heap.size ≤ B10696 := by rcases hor10701 with h | h; (rw [h]; exact hlBk); (rw [h]; exact hb10692.size)
  have ne_R_B10696 : R ≠ B10696 := by have h := (k10694).lt; omega
  have ne_B10672_B10696 : B10672 ≠ B10696 := by have h := (k10695).lt; omega
  have ne_B10688_B10696 : B10688 ≠ B10696 := by have h := (hN10690.blk).lt; omega
  have hb10702 := low1 hb10692 hg10700 (by omega)
  refine wpo_assign (v := .slice (some ⟨B10696, 0, none⟩) ((ks ++ ([x10685] : List Int)).length) cap10697) rfl rfl ?_
  refine wpo_nil ?_
  refine blk_n ?_
  refine thn_n ?_
  refine wpf_region ?_
  refine wpo_move (v := .int .i64 n) e10666 rfl ?_
  refine wpo_sub (c := n - 1) rfl rfl (by omega) (by omega) (by omega) rfl ?_
  refine wpo_assign (v := .int .i64 (n - 1)) rfl rfl ?_
  refine wpo_nil ?_
  refine thn_n ?_
  have k10703 := (k10694.grown hg10700 (some_ne (by omega)))
  exact ⟨(n - 1).toNat, by omega, (n - 1), (p1 + 1), B10696, cap10697, (ks ++ ([x10685] : List Int)), rfl, (by omega), (by omega), (by simp only [List.length_append, List.length_cons, List.length_nil]; omega), (by intro y hy; rcases List.mem_append.1 hy with h | h; exact hks y h; (simp at h; omega)), hO10699, hlB10696, (by omega), rfl, rfl, e10667, e10668, hb10702, k10703⟩
 ·
  have h10704 := of_decide_eq_false h10670
  refine wpf_exit ?_
  refine thn_e ?_
  refine thn_e ?_
  refine blk_e ?_
  refine thn_n ?_
  refine wpf_seq_region ?_
  refine wpo_buildSlice (ps := []) (e := 45) (cs := (([] : List MTh).flatMap MTh.cells).toArray) parts_nil (fun _ => by kernel_rfl) rfl ?_
  intro B10705 w10706 hN10707
  have hlB10705 := hN_ge hN10707 hb10663
  have lt_R_B10705 := hN_gtl hN10707 (k10669).lt
  have lt_Bk_B10705 := hN_gtl hN10707 (hOk).lt
  have hb10708 := low0 hb10663 hN10707.grw
  refine wpo_assign (v := .slice (some ⟨B10705, 0, none⟩) 0 0) rfl rfl ?_
  refine wpo_nil ?_
  refine wpf_seq ?_
  refine wpf_seq_region ?_
  refine wpo_assign (v := .int .i64 0) rfl rfl ?_
  refine wpo_nil ?_
  refine wpf_block ?_
  have k10709 := (hOk.grown0 hN10707.grw)
  have k10710 := (k10669.grown0 hN10707.grw)
  refine wpf_loopN (fun mm f' w' => ∃ (i : Nat) (p2 : Int) (Bt : Nat) (ct : Nat) (ms : List MTh), mm = ks.length - i ∧ i ≤ ks.length ∧ (p ≤ p2 ∧ p2 ≤ p + 6 + 12 * (i : Int)) ∧ ms.length = i ∧ RowsD 29 3 w.heap.size w' ms ∧ Dw.Own w' Bt 45 8 ct ms.length (ms.flatMap MTh.cells) ∧ w.heap.size ≤ Bt ∧ R ≠ Bt ∧ Bk ≠ Bt ∧ f' 5 = .slice (some ⟨Bt, 0, none⟩) ms.length ct ∧ f' 6 = .int .i64 (i : Int) ∧ f' 0 = .pointer (some ⟨R, 0, none⟩) ∧ f' 2 = .slice none 0 0 ∧ f' 3 = .slice (some ⟨Bk, 0, none⟩) ks.length ck ∧ w.grownBy w' (some R) ∧ Dw.Own w' Bk 3 1 ck ks.length (ks.flatMap icell) ∧ Blk w' R 121 #[.slice a bs.length c, .int .i64 p2]) (ks.length - 0) ⟨0, p1, B10705, 0, ([] : List MTh), rfl, (Nat.zero_le _), (by omega), rfl, RowsD.nil, (Own.rows wide_mth hN10707.blk (by simp)), hlB10705, (by omega), (by omega), rfl, rfl, e10667, e10668, e10665, hb10708, k10709, k10710⟩ ?_
  rintro mm f10711 w10712 ⟨i, p2, Bt, ct, ms, hm10714, hi, hpp2, hml, hRows, hOt, hlBt, hnf0, hnf1, e10715, e10716, e10717, e10718, e10719, hb10713, k10720, k10721⟩
  have hkl2 := hkl
  refine wpf_seq ?_
  refine wpf_seq_region ?_
  refine wpo_move (v := .int .i64 (i : Int)) e10716 rfl ?_
  refine wpo_move (v := .slice (some ⟨Bk, 0, none⟩) ks.length ck) e10719 rfl ?_
  refine wpo_len (by kernel_rfl) rfl rfl ?_
  refine wpo_lss (q := decide ((i : Int) < (ks.length : Int))) rfl rfl rfl rfl ?_
  refine wpo_nil ?_
  refine wpf_cond rfl (fun h10722 => ?_) (fun h10722 => ?_)
  ·
   have h10723 := of_decide_eq_true h10722
   refine wpf_skip ?_
   refine thn_n ?_
   refine wpf_seq ?_
   refine wpf_block ?_
   refine wpf_seq_region ?_
   refine wpo_assign (v := .int .i64 0) rfl rfl ?_
   refine wpo_nil ?_
   refine wpf_seq ?_
   refine wpf_seq_region ?_
   refine wpo_move (v := .slice (some ⟨Bk, 0, none⟩) ks.length ck) e10719 rfl ?_
   refine wpo_move (v := .int .i64 (i : Int)) e10716 rfl ?_
   refine wpo_indexAddr (o' := i * 1) es_43 rfl rfl (by omega) (by omega) (by omega) rfl ?_
   obtain ⟨x10724, hx10725⟩ := get_lt (l := ks) (i := i) (by omega)
   refine wpo_load1 (v := .int .i64 x10724) ot_3 rfl ((Own.range wide_int k10720 hx10725) 0 _ rfl) rfl ?_
   refine wpo_eql (q := decide (x10724 = 5)) rfl rfl rfl rfl ?_
   refine wpo_nil ?_
   refine wpf_mid (fun f' w' => (f' 0 = .pointer (some ⟨R, 0, none⟩) ∧ f' 2 = .slice none 0 0 ∧ f' 3 = .slice (some ⟨Bk, 0, none⟩) ks.length ck ∧ f' 5 = .slice (some ⟨Bt, 0, none⟩) ms.length ct ∧ f' 6 = .int .i64 (i : Int) ∧ f' 7 = .int .i64 (if x10724 = 5 then 1 else 0)) ∧ w10712 = w') ?_ ?_
   ·
    refine wpf_cond rfl (fun h10726 => ?_) (fun h10726 => ?_)
    ·
     have h10727 := of_decide_eq_true h10726
     refine wpf_region ?_
     refine wpo_assign (v := .int .i64 1) rfl rfl ?_
     refine wpo_nil ?_
     refine thn_n ?_
     exact ⟨⟨e10717, e10718, e10719, e10715, e10716, (congrArg (Value.int .i64) (if_pos (of_decide_eq_true h10726)).symm)⟩, rfl⟩
    ·
     have h10728 := of_decide_eq_false h10726
     refine wpf_skip ?_
     refine thn_n ?_
     exact ⟨⟨e10717, e10718, e10719, e10715, e10716, (congrArg (Value.int .i64) (if_neg (of_decide_eq_false h10726)).symm)⟩, rfl⟩
   ·
    rintro f10729 _ ⟨⟨e10731, e10732, e10733, e10734, e10735, e10736⟩, rfl⟩
    refine thn_n ?_
    refine wpf_region ?_
    refine wpo_move (v := .slice (some ⟨Bt, 0, none⟩) ms.length ct) e10734 rfl ?_
    refine wpo_move (v := .pointer (some ⟨R, 0, none⟩)) e10731 rfl ?_
    refine wpo_move (v := .slice (some ⟨Bk, 0, none⟩) ks.length ck) e10733 rfl ?_
    refine wpo_move (v := .int .i64 (i : Int)) e10735 rfl ?_
    refine wpo_indexAddr (o' := i * 1) es_43 rfl rfl (by omega) (by omega) (by omega) rfl ?_
    refine wpo_load1 (v := .int .i64 x10724) ot_3 rfl ((Own.range wide_int k10720 hx10725) 0 _ rfl) rfl ?_
    refine wpo_move (v := .int .i64 (if x10724 = 5 then 1 else 0)) e10736 rfl ?_
    refine wpo_call (vs := [.pointer (some ⟨R, 0, none⟩), .int .i64 x10724, .int .i64 (if x10724 = 5 then 1 else 0)]) gf_114 (args_cons rfl (args_cons rfl (args_cons rfl args_nil))) rfl (l71Thing_c x10724 (if x10724 = 5 then 1 else 0) p2 (by omega) _ R bs _ _ _ k10721 (by omega) (SlLt.low1 hs hb10713 hlo) (by first | exact hb | exact fun b h => hb b (List.mem_of_mem_take h)) (by first | omega | (rw [List.length_take]; omega))) ?_
    rintro _ w10744 ⟨m10737, p10738, rfl, hRD10739, hp10740, hp10741, kR10742, hg10743⟩
    have hb10745 := grown_trans hb10713 hg10743
    have hRD10746 := RowD.mono hRD10739 hb10713.size
    refine wpo_buildSlice (ps := [(0, .agg #[.int .i64 m10737.t.kind, .int .i64 m10737.t.lab.s, .int .i64 m10737.t.lab.v, .int .i64 m10737.t.ve, .int .i64 m10737.t.num, .slice m10737.sa m10737.t.slots.length m10737.sc, .slice m10737.qa m10737.t.queue.length m10737.qc, .int .i64 m10737.t.to])]) (e := 45) (cs := (([m10737] : List MTh).flatMap MTh.cells).toArray) (parts_cons rfl parts_nil) (fun _ => by kernel_rfl) rfl ?_
    intro B10747 w10748 hN10749
    have hlB10747 := hN_ge hN10749 hb10745
    have k10750 := (k10720.grown hg10743 (some_ne (by omega)))
    have lt_Bk_B10747 := hN_gtl hN10749 (k10750).lt
    have lt_R_B10747 := hN_gtl hN10749 (kR10742).lt
    have k10751 := (hOt.grown hg10743 (some_ne (by omega)))
    have lt_Bt_B10747 := hN_gtl hN10749 (k10751).lt
    have hb10752 := low0 hb10745 hN10749.grw
    have k10753 := (k10751.grown0 hN10749.grw)
    have k10754 := (k10750.grown0 hN10749.grw)
    have k10755 := (kR10742.grown0 hN10749.grw)
    refine wpo_append (g := MTh.cells) (ys := ms) (zs := ([m10737] : List MTh)) mk_54 rfl wide_mth (by omega) onec_mth rfl rfl k10753 (rows_sl wide_mth hN10749.blk) (by simp only [List.length_cons, List.length_nil]; omega) (by omega) rfl ?_
    intro B10756 cap10757 w10758 hO10759 hg10760 hor10761
    have hlB10756 : w.heap.size ≤ B10756 := by rcases hor10761 with h | h; (rw [h]; exact hlBt); (rw [h]; exact hb10752.size)
    have ne_Bk_B10756 : Bk ≠ B10756 := by have h := (k10754).lt; omega
    have ne_R_B10756 : R ≠ B10756 := by have h := (k10755).lt; omega
    have ne_B10747_B10756 : B10747 ≠ B10756 := by have h := (hN10749.blk).lt; omega
    have hb10762 := low1 hb10752 hg10760 (by omega)
    refine wpo_assign (v := .slice (some ⟨B10756, 0, none⟩) ((ms ++ ([m10737] : List MTh)).length) cap10757) rfl rfl ?_
    refine wpo_nil ?_
    refine blk_n ?_
    refine thn_n ?_
    refine wpf_region ?_
    refine wpo_move (v := .int .i64 (i : Int)) e10735 rfl ?_
    refine wpo_add (c := (i : Int) + 1) rfl rfl (by omega) (by omega) (by omega) rfl ?_
    refine wpo_assign (v := .int .i64 ((i : Int) + 1)) rfl rfl ?_
    refine wpo_nil ?_
    refine thn_n ?_
    have hRw10763 := (RowsD.typ (RowsD.low (RowsD.lt hRows hg10743 (by omega)) hN10749.grw) hg10760 k10753 (by decide) (by decide))
    have k10764 := (k10754.grown hg10760 (some_ne (by omega)))
    have k10765 := (k10755.grown hg10760 (some_ne (by omega)))
    exact ⟨ks.length - (i + 1), by omega, (i + 1), p10738, B10756, cap10757, (ms ++ ([m10737] : List MTh)), rfl, (by omega), (by omega), (by rw [List.length_append, hml]; rfl), (RowsD.snoc hRw10763 (RowD.typ (RowD.low hRD10746 hN10749.grw) hg10760 k10753 (by decide) (by decide))), hO10759, hlB10756, (by omega), (by omega), rfl, rfl, e10731, e10732, e10733, hb10762, k10764, k10765⟩
  ·
   have h10766 := of_decide_eq_false h10722
   refine wpf_exit ?_
   refine thn_e ?_
   refine thn_e ?_
   refine blk_e ?_
   refine thn_n ?_
   refine wpf_seq ?_
   refine wpf_seq_region ?_
   refine wpo_assign (v := .int .i64 0) rfl rfl ?_
   refine wpo_nil ?_
   refine wpf_block ?_
   obtain ⟨hi, hhi⟩ : ∃ n, n = w10712.heap.size := ⟨_, rfl⟩
   have hH := RowsD.hi hRows
   rw [← hhi] at hH
   have hbt := (hOt).lt
   refine wpf_loopN (fun mm f' w' => ∃ (i3 : Nat) (p3 : Int), mm = ms.length - i3 ∧ i3 ≤ ms.length ∧ (p ≤ p3 ∧ p3 ≤ p + 102 + 56 * (i3 : Int)) ∧ RowsD 29 3 w.heap.size w' ms ∧ Dw.Own w' Bt 45 8 ct ms.length (ms.flatMap MTh.cells) ∧ hi ≤ w'.heap.size ∧ f' 8 = .int .i64 (i3 : Int) ∧ f' 0 = .pointer (some ⟨R, 0, none⟩) ∧ f' 2 = .slice none 0 0 ∧ f' 5 = .slice (some ⟨Bt, 0, none⟩) ms.length ct ∧ w.grownBy w' (some R) ∧ Dw.Own w' Bt 45 8 ct ms.length (ms.flatMap MTh.cells) ∧ Blk w' R 121 #[.slice a bs.length c, .int .i64 p3]) (ms.length - 0) ⟨0, p2, rfl, (Nat.zero_le _), (by omega), hRows, hOt, (Nat.le_of_eq hhi), rfl, e10717, e10718, e10715, hb10713, hOt, k10721⟩ ?_
   rintro mm f10767 w10768 ⟨i3, p3, hm10770, hi3, hpp3, hRows, hOt, hhs, e10771, e10772, e10773, e10774, hb10769, k10775, k10776⟩
   refine wpf_seq ?_
   refine wpf_seq_region ?_
   refine wpo_move (v := .int .i64 (i3 : Int)) e10771 rfl ?_
   refine wpo_move (v := .slice (some ⟨Bt, 0, none⟩) ms.length ct) e10774 rfl ?_
   refine wpo_len (by kernel_rfl) rfl rfl ?_
   refine wpo_lss (q := decide ((i3 : Int) < (ms.length : Int))) rfl rfl rfl rfl ?_
   refine wpo_nil ?_
   refine wpf_cond rfl (fun h10777 => ?_) (fun h10777 => ?_)
   ·
    have h10778 := of_decide_eq_true h10777
    refine wpf_skip ?_
    refine thn_n ?_
    refine wpf_seq ?_
    refine wpf_block ?_
    refine wpf_seq_region ?_
    refine wpo_assign (v := .int .i64 0) rfl rfl ?_
    refine wpo_nil ?_
    refine wpf_block ?_
    refine wpf_loopN (fun mm f' w' => ∃ (j : Nat) (p4 : Int), mm = (mAt ms i3).t.slots.length - j ∧ j ≤ (mAt ms i3).t.slots.length ∧ (p3 ≤ p4 ∧ p4 ≤ p3 + 14 * (j : Int)) ∧ RowsD 29 3 w.heap.size w' ms ∧ Dw.Own w' Bt 45 8 ct ms.length (ms.flatMap MTh.cells) ∧ hi ≤ w'.heap.size ∧ f' 9 = .int .i64 (j : Int) ∧ f' 0 = .pointer (some ⟨R, 0, none⟩) ∧ f' 2 = .slice none 0 0 ∧ f' 5 = .slice (some ⟨Bt, 0, none⟩) ms.length ct ∧ f' 8 = .int .i64 (i3 : Int) ∧ w.grownBy w' (some R) ∧ Dw.Own w' Bt 45 8 ct ms.length (ms.flatMap MTh.cells) ∧ Blk w' R 121 #[.slice a bs.length c, .int .i64 p4]) ((mAt ms i3).t.slots.length - 0) ⟨0, p3, rfl, (Nat.zero_le _), (by omega), hRows, hOt, hhs, rfl, e10772, e10773, e10774, e10771, hb10769, hOt, k10776⟩ ?_
    rintro mm f10779 w10780 ⟨j, p4, hm10782, hj, hpp4, hRows, hOt, hhs, e10783, e10784, e10785, e10786, e10787, hb10781, k10788, k10789⟩
    have hsl4 := (RowsD.at hRows (show i3 < ms.length by omega)).sl
    refine wpf_seq ?_
    refine wpf_seq_region ?_
    refine wpo_move (v := .int .i64 (j : Int)) e10783 rfl ?_
    refine wpo_move (v := .slice (some ⟨Bt, 0, none⟩) ms.length ct) e10786 rfl ?_
    refine wpo_move (v := .int .i64 (i3 : Int)) e10787 rfl ?_
    refine wpo_indexAddr (o' := i3 * 8) es_54 rfl rfl (by omega) (by omega) (by omega) rfl ?_
    refine wpo_fieldAddr (o' := i3 * 8 + 5) fo_45_4 rfl rfl rfl ?_
    have hve10790 := (RowsD.at hRows (show i3 < ms.length by omega)).ve
    refine wpo_load1 (v := .slice ((mAt ms i3).sa) ((mAt ms i3).t.slots.length) ((mAt ms i3).sc)) ot_27 rfl ((Own.range wide_mth hOt (mAt_get (show i3 < ms.length by omega))) 5 _ rfl) rfl ?_
    refine wpo_len (by kernel_rfl) rfl rfl ?_
    refine wpo_lss (q := decide ((j : Int) < ((mAt ms i3).t.slots.length : Int))) rfl rfl rfl rfl ?_
    refine wpo_nil ?_
    refine wpf_cond rfl (fun h10791 => ?_) (fun h10791 => ?_)
    ·
     have h10792 := of_decide_eq_true h10791
     refine wpf_skip ?_
     refine thn_n ?_
     refine wpf_seq ?_
     refine wpf_block ?_
     refine wpf_seq_region ?_
     refine wpo_move (v := .pointer (some ⟨R, 0, none⟩)) e10784 rfl ?_
     refine wpo_call (vs := [.pointer (some ⟨R, 0, none⟩)]) gf_61 (args_cons rfl args_nil) rfl (l71Right_c p4 (by omega) _ R bs _ _ _ k10789 (by omega) (SlLt.low1 hs hb10781 hlo) (by first | exact hb | exact fun b h => hb b (List.mem_of_mem_take h)) (by first | omega | (rw [List.length_take]; omega))) ?_
     rintro _ w10803 ⟨r10793, p10794, rfl, hr10795, hr10796, hr10797, hr10798, hp10799, hp10800, kR10801, hg10802⟩
     have hb10804 := grown_trans hb10781 hg10802
     refine wpo_alloc (cs := #[.int .i64 0, .int .i64 0, .bool false, .bool false, .bool false]) zt_29 rfl rfl ?_
     intro B10805 w10806 hN10807
     have hlB10805 := hN_ge hN10807 hb10804
     have hhiB10805 : hi ≤ B10805 := Nat.le_trans (Nat.le_trans hhs hg10802.size) (Nat.le_of_eq hN10807.eq.symm)
     have k10808 := (hOt.grown hg10802 (some_ne (by omega)))
     have lt_Bt_B10805 := hN_gtl hN10807 (k10808).lt
     have lt_R_B10805 := hN_gtl hN10807 (kR10801).lt
     have hb10809 := low0 hb10804 hN10807.grw
     refine wpo_storen (vs := [.int .i64 r10793.th, .int .i64 r10793.ve, .bool r10793.rd, .bool r10793.wr, .bool r10793.wk]) (cs' := #[.int .i64 r10793.th, .int .i64 r10793.ve, .bool r10793.rd, .bool r10793.wr, .bool r10793.wk]) rt_29 rfl rfl rfl (by simp [Value.oneCell']) hN10807.blk (Nat.le_of_ble_eq_true rfl) rfl ?_
     intro w10810 hS10811
     have hb10812 := low1 hb10809 hS10811.grw (by omega)
     refine wpo_nil ?_
     refine wpf_seq_mid (fun f' w' => ∃ (p5 : Int) (r5 : Rt), (p4 ≤ p5 ∧ p5 ≤ p4 + 12) ∧ RB r5 ∧ RowsD 29 3 w.heap.size w' ms ∧ Dw.Own w' Bt 45 8 ct ms.length (ms.flatMap MTh.cells) ∧ hi ≤ w'.heap.size ∧ f' 0 = .pointer (some ⟨R, 0, none⟩) ∧ f' 2 = .slice none 0 0 ∧ f' 5 = .slice (some ⟨Bt, 0, none⟩) ms.length ct ∧ f' 8 = .int .i64 (i3 : Int) ∧ f' 9 = .int .i64 (j : Int) ∧ f' 10 = .pointer (some ⟨B10805, 0, none⟩) ∧ w.grownBy w' (some R) ∧ Blk w' B10805 29 #[.int .i64 r5.th, .int .i64 r5.ve, .bool r5.rd, .bool r5.wr, .bool r5.wk] ∧ Dw.Own w' Bt 45 8 ct ms.length (ms.flatMap MTh.cells) ∧ Blk w' R 121 #[.slice a bs.length c, .int .i64 p5]) ?_ ?_
     ·
      refine wpf_seq_region ?_
      refine wpo_fieldAddr (o' := 0) fo_29_0 rfl rfl rfl ?_
      refine wpo_load1 (v := .int .i64 r10793.th) ot_3 rfl (hS10811.blk.cell rfl) rfl ?_
      refine wpo_gtr (q := decide (0 < r10793.th)) rfl rfl rfl rfl ?_
      refine wpo_move (v := .bool (decide (0 < r10793.th))) rfl rfl ?_
      rcases bcases (decide (0 < r10793.th)) with h10821 | h10821
      ·
       have h10822 := of_decide_eq_true h10821
       refine wpo_run rfl rfl rfl h10821 ?_
       refine wpo_move (v := .pointer (some ⟨R, 0, none⟩)) e10784 rfl ?_
       refine wpo_run rfl rfl rfl h10821 ?_
       have k10823 := ((kR10801.grown0 hN10807.grw).grown hS10811.grw (some_ne (by omega)))
       refine wpo_call (vs := [.pointer (some ⟨R, 0, none⟩), .int .i64 40]) gf_60 (args_cons rfl (args_cons rfl args_nil)) rfl (pick_c p10794 40 (by omega) _ R bs _ _ _ k10823 (by omega) (SlLt.low1 hs hb10812 hlo) (by first | exact hb | exact fun b h => hb b (List.mem_of_mem_take h)) (by first | omega | (rw [List.length_take]; omega))) ?_
       rintro _ w10829 ⟨k10824, rfl, hk10825, hk10826, kR10827, hg10828⟩
       have hb10830 := grown_trans hb10812 hg10828
       refine wpo_run rfl rfl rfl h10821 ?_
       refine wpo_gtr (q := decide (0 < k10824)) rfl rfl rfl rfl ?_
       refine wpo_pickt (v := .bool (decide (0 < k10824))) rfl h10821 rfl rfl ?_
       refine wpo_nil ?_
       refine wpf_cond rfl (fun h10831 => ?_) (fun h10831 => ?_)
       ·
        have h10832 := of_decide_eq_true h10831
        refine wpf_seq ?_
        refine wpf_drawI (m := 7) [[], [0], [], [2], [0, 1, 2, 3], [], [5], [0, 1, 2, 3, 4, 5, 6], [0, 1, 2, 3, 4, 5, 6, 7], [0, 1, 2, 3, 4, 5, 6, 7, 8], [0, 1, 2, 3, 4, 5, 6, 7, 8, 9]] (fun S F w' => ∃ (k10872 : Int), w10829.grownBy w' (some R) ∧ F 0 = .pointer (some ⟨R, 0, none⟩) ∧ F 2 = .slice none 0 0 ∧ F 5 = .slice (some ⟨Bt, 0, none⟩) ms.length ct ∧ F 8 = .int .i64 (i3 : Int) ∧ F 9 = .int .i64 (j : Int) ∧ F 10 = .pointer (some ⟨B10805, 0, none⟩) ∧ (S 3 = false → Blk w' R 121 #[.slice a bs.length c, .int .i64 (p10794 + 1)]) ∧ (S 0 = true → F 74 = .pointer (some ⟨B10805, 0, none⟩)) ∧ (S 1 = true → F 75 = .int .i64 r10793.th) ∧ (S 2 = true → F 76 = .pointer (some ⟨R, 0, none⟩)) ∧ (S 3 = true → F 77 = .int .i64 k10872 ∧ 0 ≤ k10872 ∧ (k10872 < 8 ∨ k10872 = 0) ∧ Blk w' R 121 #[.slice a bs.length c, .int .i64 (p10794 + 1 + 1)]) ∧ (S 4 = true → F 78 = .int .i64 (r10793.th + k10872)) ∧ (S 5 = true → F 79 = .slice (some ⟨Bt, 0, none⟩) ms.length ct) ∧ (S 6 = true → F 80 = .int .i64 (ms.length : Int))) mixed_ (by kernel_rfl) ⟨0, grown_drew _, e10784, e10785, e10786, e10787, e10783, rfl, fun _ => (kR10827).grown0 (grown_drew _), fun h => not_begun h, fun h => not_begun h, fun h => not_begun h, fun h => not_begun h, fun h => not_begun h, fun h => not_begun h, fun h => not_begun h⟩ ?_ ?_
        ·
         refine preL_cons (fun S F w10879 hS hbef hcl hI => ?_) ?_
         ·
          obtain ⟨k10872, hi10880, e10881, e10882, e10883, e10884, e10885, e10886, c_old_R, c_0, c_1, c_2, c_3, c_4, c_5, c_6⟩ := hI
          have hb10887 := grown_trans hb10830 hi10880
          refine wpo_fieldAddr (o' := 0) fo_29_0 e10886 rfl rfl ?_
          exact wpo_nil ⟨k10872, hi10880, e10881, e10882, e10883, e10884, e10885, e10886, fun h => c_old_R h, fun _ => rfl, fun h => undone 1 hS hcl rfl h, c_2, c_3, fun h => undone 4 hS hcl rfl h, c_5, c_6⟩
         refine preL_cons (fun S F w10888 hS hbef hcl hI => ?_) ?_
         ·
          obtain ⟨k10872, hi10889, e10890, e10891, e10892, e10893, e10894, e10895, c_old_R, c_0, c_1, c_2, c_3, c_4, c_5, c_6⟩ := hI
          have hb10896 := grown_trans hb10830 hi10889
          obtain e10897 := c_0 (ready_of 0 hbef rfl)
          have k10898 := ((hS10811.blk.grown hg10828 (some_ne (by omega))).grown hi10889 (some_ne (by omega)))
          refine wpo_load1 (v := .int .i64 r10793.th) ot_3 e10897 (k10898.cell rfl) rfl ?_
          exact wpo_nil ⟨k10872, hi10889, e10890, e10891, e10892, e10893, e10894, e10895, fun h => c_old_R h, c_0, fun _ => rfl, c_2, c_3, fun h => undone 4 hS hcl rfl h, c_5, c_6⟩
         refine preL_cons (fun S F w10899 hS hbef hcl hI => ?_) ?_
         ·
          obtain ⟨k10872, hi10900, e10901, e10902, e10903, e10904, e10905, e10906, c_old_R, c_0, c_1, c_2, c_3, c_4, c_5, c_6⟩ := hI
          have hb10907 := grown_trans hb10830 hi10900
          refine wpo_move (v := .pointer (some ⟨R, 0, none⟩)) e10901 rfl ?_
          exact wpo_nil ⟨k10872, hi10900, e10901, e10902, e10903, e10904, e10905, e10906, fun h => c_old_R h, c_0, c_1, fun _ => rfl, fun h => undone 3 hS hcl rfl h, fun h => undone 4 hS hcl rfl h, c_5, c_6⟩
         refine preL_cons (fun S F w10908 hS hbef hcl hI => ?_) ?_
         ·
          obtain ⟨k10872, hi10909, e10910, e10911, e10912, e10913, e10914, e10915, c_old_R, c_0, c_1, c_2, c_3, c_4, c_5, c_6⟩ := hI
          have hb10916 := grown_trans hb10830 hi10909
          obtain e10917 := c_2 (ready_of 2 hbef rfl)
          refine wpo_call (vs := [.pointer (some ⟨R, 0, none⟩), .int .i64 8]) gf_60 (args_cons e10917 (args_cons rfl args_nil)) rfl (pick_c (p10794 + 1) 8 (by omega) _ R bs _ _ _ (c_old_R hS) (by omega) (SlLt.low1 hs hb10916 hlo) (by first | exact hb | exact fun b h => hb b (List.mem_of_mem_take h)) (by first | omega | (rw [List.length_take]; omega))) ?_
          rintro _ w10923 ⟨k10918, rfl, hk10919, hk10920, kR10921, hg10922⟩
          have hb10924 := grown_trans hb10916 hg10922
          exact wpo_nil ⟨k10918, (grown_trans hi10909 hg10922), e10910, e10911, e10912, e10913, e10914, e10915, fun h => not_open h, c_0, c_1, c_2, fun _ => ⟨rfl, hk10919, hk10920, kR10921⟩, fun h => undone 4 hS hcl rfl h, c_5, c_6⟩
         refine preL_cons (fun S F w10925 hS hbef hcl hI => ?_) ?_
         ·
          obtain ⟨k10872, hi10926, e10927, e10928, e10929, e10930, e10931, e10932, c_old_R, c_0, c_1, c_2, c_3, c_4, c_5, c_6⟩ := hI
          have hb10933 := grown_trans hb10830 hi10926
          obtain e10934 := c_0 (ready_of 0 hbef rfl)
          obtain e10935 := c_1 (ready_of 1 hbef rfl)
          obtain e10936 := c_2 (ready_of 2 hbef rfl)
          obtain ⟨e10937, hk10873, hk10874, ks3_R⟩ := c_3 (ready_of 3 hbef rfl)
          refine wpo_add (c := r10793.th + k10872) e10935 e10937 (by omega) (by omega) (by omega) rfl ?_
          exact wpo_nil ⟨k10872, hi10926, e10927, e10928, e10929, e10930, e10931, e10932, fun hn => not_open ((ready_of 3 hbef rfl).symm.trans hn), c_0, c_1, c_2, c_3, fun _ => rfl, c_5, c_6⟩
         refine preL_cons (fun S F w10938 hS hbef hcl hI => ?_) ?_
         ·
          obtain ⟨k10872, hi10939, e10940, e10941, e10942, e10943, e10944, e10945, c_old_R, c_0, c_1, c_2, c_3, c_4, c_5, c_6⟩ := hI
          have hb10946 := grown_trans hb10830 hi10939
          refine wpo_move (v := .slice (some ⟨Bt, 0, none⟩) ms.length ct) e10942 rfl ?_
          exact wpo_nil ⟨k10872, hi10939, e10940, e10941, e10942, e10943, e10944, e10945, fun h => c_old_R h, c_0, c_1, c_2, c_3, c_4, fun _ => rfl, fun h => undone 6 hS hcl rfl h⟩
         refine preL_cons (fun S F w10947 hS hbef hcl hI => ?_) ?_
         ·
          obtain ⟨k10872, hi10948, e10949, e10950, e10951, e10952, e10953, e10954, c_old_R, c_0, c_1, c_2, c_3, c_4, c_5, c_6⟩ := hI
          have hb10955 := grown_trans hb10830 hi10948
          obtain e10956 := c_5 (ready_of 5 hbef rfl)
          refine wpo_len (by kernel_rfl) e10956 rfl ?_
          exact wpo_nil ⟨k10872, hi10948, e10949, e10950, e10951, e10952, e10953, e10954, fun h => c_old_R h, c_0, c_1, c_2, c_3, c_4, c_5, fun _ => rfl⟩
         exact preL_nil
        ·
         intro S F w10957 hall hI
         obtain ⟨k10872, hi10958, e10959, e10960, e10961, e10962, e10963, e10964, c_old_R, c_0, c_1, c_2, c_3, c_4, c_5, c_6⟩ := hI
         have hb10965 := grown_trans hb10830 hi10958
         obtain e10966 := c_0 (hall 0 (by decide))
         obtain e10967 := c_1 (hall 1 (by decide))
         obtain e10968 := c_2 (hall 2 (by decide))
         obtain ⟨e10969, hk10873, hk10874, ks3_R⟩ := c_3 (hall 3 (by decide))
         obtain e10970 := c_4 (hall 4 (by decide))
         obtain e10971 := c_5 (hall 5 (by decide))
         obtain e10972 := c_6 (hall 6 (by decide))
         have hr10973 := Int.emod_nonneg (r10793.th + k10872) (show (ms.length : Int) ≠ 0 by omega)
         have hr10974 := Int.emod_lt_of_pos (r10793.th + k10872) (show 0 < (ms.length : Int) by omega)
         refine wpo_rem (c := (r10793.th + k10872) % (ms.length : Int)) e10970 e10972 (by omega) (by omega) (by omega) rfl rfl ?_
         refine wpo_add (c := 1 + ((r10793.th + k10872) % (ms.length : Int))) rfl rfl (by omega) (by omega) (by omega) rfl ?_
         refine wpo_fieldAddr (o' := 0) fo_29_0 e10964 rfl rfl ?_
         have k10975 := ((hS10811.blk.grown hg10828 (some_ne (by omega))).grown hi10958 (some_ne (by omega)))
         refine wpo_store1 (v := .int .i64 (1 + ((r10793.th + k10872) % (ms.length : Int)))) (cs' := #[.int .i64 (1 + ((r10793.th + k10872) % (ms.length : Int))), .int .i64 r10793.ve, .bool r10793.rd, .bool r10793.wr, .bool r10793.wk]) ot_3 rfl rfl rfl k10975 (Nat.le_of_ble_eq_true rfl) rfl ?_
         intro w10976 hS10977
         have hb10978 := low1 hb10965 hS10977.grw (by omega)
         refine wpo_nil ?_
         refine thn_n ?_
         refine wpf_seq_region ?_
         refine wpo_move (v := .slice (some ⟨Bt, 0, none⟩) ms.length ct) e10961 rfl ?_
         refine wpo_fieldAddr (o' := 0) fo_29_0 e10964 rfl rfl ?_
         refine wpo_load1 (v := .int .i64 (1 + ((r10793.th + k10872) % (ms.length : Int)))) ot_3 rfl (hS10977.blk.cell rfl) rfl ?_
         refine wpo_sub (c := (1 + ((r10793.th + k10872) % (ms.length : Int))) - 1) rfl rfl (by omega) (by omega) (by omega) rfl ?_
         refine wpo_indexAddr (o' := ((1 + ((r10793.th + k10872) % (ms.length : Int))) - 1).toNat * 8) es_54 rfl rfl (by omega) (by omega) (by omega) rfl ?_
         refine wpo_fieldAddr (o' := ((1 + ((r10793.th + k10872) % (ms.length : Int))) - 1).toNat * 8 + 3) fo_45_2 rfl rfl rfl ?_
         have k10979 := (((((k10808.grown0 hN10807.grw).grown hS10811.grw (some_ne (by omega))).grown hg10828 (some_ne (by omega))).grown hi10958 (some_ne (by omega))).grown hS10977.grw (some_ne (by omega)))
         have hRw10981 := (RowsD.ge (RowsD.lt (RowsD.lt (RowsD.ge (RowsD.low (RowsD.lt hRows hg10802 (by omega)) hN10807.grw) hS10811.grw hH (by omega)) hg10828 (by omega)) hi10958 (by omega)) hS10977.grw hH (by omega))
         have hve10980 := (RowsD.at hRw10981 (show ((1 + ((r10793.th + k10872) % (ms.length : Int))) - 1).toNat < ms.length by omega)).ve
         refine wpo_load1 (v := .int .i64 ((mAt ms (((1 + ((r10793.th + k10872) % (ms.length : Int))) - 1).toNat)).t.ve)) ot_3 rfl ((Own.range wide_mth k10979 (mAt_get (show ((1 + ((r10793.th + k10872) % (ms.length : Int))) - 1).toNat < ms.length by omega))) 3 _ rfl) rfl ?_
         refine wpo_fieldAddr (o' := 1) fo_29_1 e10964 rfl rfl ?_
         refine wpo_store1 (v := .int .i64 ((mAt ms (((1 + ((r10793.th + k10872) % (ms.length : Int))) - 1).toNat)).t.ve)) (cs' := #[.int .i64 (1 + ((r10793.th + k10872) % (ms.length : Int))), .int .i64 ((mAt ms (((1 + ((r10793.th + k10872) % (ms.length : Int))) - 1).toNat)).t.ve), .bool r10793.rd, .bool r10793.wr, .bool r10793.wk]) ot_3 rfl rfl rfl hS10977.blk (Nat.le_of_ble_eq_true rfl) rfl ?_
         intro w10982 hS10983
         have hb10984 := low1 hb10978 hS10983.grw (by omega)
         refine wpo_nil ?_
         refine wpf_seq_region ?_
         refine wpo_fieldAddr (o' := 1) fo_29_1 e10964 rfl rfl ?_
         refine wpo_load1 (v := .int .i64 ((mAt ms (((1 + ((r10793.th + k10872) % (ms.length : Int))) - 1).toNat)).t.ve)) ot_3 rfl (hS10983.blk.cell rfl) rfl ?_
         refine wpo_gtr (q := decide (0 < (mAt ms (((1 + ((r10793.th + k10872) % (ms.length : Int))) - 1).toNat)).t.ve)) rfl rfl rfl rfl ?_
         refine wpo_move (v := .bool (decide (0 < (mAt ms (((1 + ((r10793.th + k10872) % (ms.length : Int))) - 1).toNat)).t.ve))) rfl rfl ?_
         rcases bcases (decide (0 < (mAt ms (((1 + ((r10793.th + k10872) % (ms.length : Int))) - 1).toNat)).t.ve)) with h10993 | h10993
         ·
          have h10994 := of_decide_eq_true h10993
          refine wpo_run rfl rfl rfl h10993 ?_
          refine wpo_move (v := .pointer (some ⟨R, 0, none⟩)) e10959 rfl ?_
          refine wpo_run rfl rfl rfl h10993 ?_
          have k10995 := ((ks3_R.grown hS10977.grw (some_ne (by omega))).grown hS10983.grw (some_ne (by omega)))
          refine wpo_call (vs := [.pointer (some ⟨R, 0, none⟩), .int .i64 5]) gf_60 (args_cons rfl (args_cons rfl args_nil)) rfl (pick_c (p10794 + 1 + 1) 5 (by omega) _ R bs _ _ _ k10995 (by omega) (SlLt.low1 hs hb10984 hlo) (by first | exact hb | exact fun b h => hb b (List.mem_of_mem_take h)) (by first | omega | (rw [List.length_take]; omega))) ?_
          rintro _ w11001 ⟨k10996, rfl, hk10997, hk10998, kR10999, hg11000⟩
          have hb11002 := grown_trans hb10984 hg11000
          refine wpo_run rfl rfl rfl h10993 ?_
          refine wpo_eql (q := decide (k10996 = 0)) rfl rfl rfl rfl ?_
          refine wpo_pickt (v := .bool (decide (k10996 = 0))) rfl h10993 rfl rfl ?_
          refine wpo_nil ?_
          refine wpf_cond rfl (fun h11003 => ?_) (fun h11003 => ?_)
          ·
           have h11004 := of_decide_eq_true h11003
           refine wpf_region ?_
           refine wpo_fieldAddr (o' := 1) fo_29_1 e10964 rfl rfl ?_
           have k11005 := (hS10983.blk.grown hg11000 (some_ne (by omega)))
           refine wpo_load1 (v := .int .i64 ((mAt ms (((1 + ((r10793.th + k10872) % (ms.length : Int))) - 1).toNat)).t.ve)) ot_3 rfl (k11005.cell rfl) rfl ?_
           refine wpo_sub (c := ((mAt ms (((1 + ((r10793.th + k10872) % (ms.length : Int))) - 1).toNat)).t.ve) - 1) rfl rfl (by omega) (by omega) (by omega) rfl ?_
           refine wpo_fieldAddr (o' := 1) fo_29_1 e10964 rfl rfl ?_
           refine wpo_store1 (v := .int .i64 (((mAt ms (((1 + ((r10793.th + k10872) % (ms.length : Int))) - 1).toNat)).t.ve) - 1)) (cs' := #[.int .i64 (1 + ((r10793.th + k10872) % (ms.length : Int))), .int .i64 (((mAt ms (((1 + ((r10793.th + k10872) % (ms.length : Int))) - 1).toNat)).t.ve) - 1), .bool r10793.rd, .bool r10793.wr, .bool r10793.wk]) ot_3 rfl rfl rfl k11005 (Nat.le_of_ble_eq_true rfl) rfl ?_
           intro w11006 hS11007
           have hb11008 := low1 hb11002 hS11007.grw (by omega)
           refine wpo_nil ?_
           refine thn_n ?_
           have hRw11009 := (RowsD.ge (RowsD.lt (RowsD.ge hRw10981 hS10983.grw hH (by omega)) hg11000 (by omega)) hS11007.grw hH (by omega))
           have k11010 := (((k10979.grown hS10983.grw (some_ne (by omega))).grown hg11000 (some_ne (by omega))).grown hS11007.grw (some_ne (by omega)))
           have k11011 := (kR10999.grown hS11007.grw (some_ne (by omega)))
           exact ⟨(p10794 + 1 + 1 + 1), (⟨1 + ((r10793.th + k10872) % (ms.length : Int)), ((mAt ms (((1 + ((r10793.th + k10872) % (ms.length : Int))) - 1).toNat)).t.ve) - 1, r10793.rd, r10793.wr, r10793.wk⟩ : Rt), (by omega), ⟨show (-1 : Int) ≤ 1 + ((r10793.th + k10872) % (ms.length : Int)) by omega, show 1 + ((r10793.th + k10872) % (ms.length : Int)) ≤ (9 : Int) by omega, show (-1 : Int) ≤ ((mAt ms (((1 + ((r10793.th + k10872) % (ms.length : Int))) - 1).toNat)).t.ve) - 1 by omega, show ((mAt ms (((1 + ((r10793.th + k10872) % (ms.length : Int))) - 1).toNat)).t.ve) - 1 ≤ (9 : Int) by omega⟩, hRw11009, k11010, (Nat.le_trans (Nat.le_trans (Nat.le_trans (Nat.le_trans (Nat.le_trans (Nat.le_trans (Nat.le_trans (Nat.le_trans (Nat.le_trans hhs hg10802.size) hN10807.grw.size) hS10811.grw.size) hg10828.size) hi10958.size) hS10977.grw.size) hS10983.grw.size) hg11000.size) hS11007.grw.size), e10959, e10960, e10961, e10962, e10963, e10964, hb11008, hS11007.blk, k11010, k11011⟩
          ·
           have h11012 := of_decide_eq_false h11003
           refine wpf_skip ?_
           refine thn_n ?_
           have hRw11013 := (RowsD.lt (RowsD.ge hRw10981 hS10983.grw hH (by omega)) hg11000 (by omega))
           have k11014 := ((k10979.grown hS10983.grw (some_ne (by omega))).grown hg11000 (some_ne (by omega)))
           have k11015 := (hS10983.blk.grown hg11000 (some_ne (by omega)))
           exact ⟨(p10794 + 1 + 1 + 1), (⟨1 + ((r10793.th + k10872) % (ms.length : Int)), (mAt ms (((1 + ((r10793.th + k10872) % (ms.length : Int))) - 1).toNat)).t.ve, r10793.rd, r10793.wr, r10793.wk⟩ : Rt), (by omega), ⟨show (-1 : Int) ≤ 1 + ((r10793.th + k10872) % (ms.length : Int)) by omega, show 1 + ((r10793.th + k10872) % (ms.length : Int)) ≤ (9 : Int) by omega, show (-1 : Int) ≤ (mAt ms (((1 + ((r10793.th + k10872) % (ms.length : Int))) - 1).toNat)).t.ve by omega, show (mAt ms (((1 + ((r10793.th + k10872) % (ms.length : Int))) - 1).toNat)).t.ve ≤ (9 : Int) by omega⟩, hRw11013, k11014, (Nat.le_trans (Nat.le_trans (Nat.le_trans (Nat.le_trans (Nat.le_trans (Nat.le_trans (Nat.le_trans (Nat.le_trans hhs hg10802.size) hN10807.grw.size) hS10811.grw.size) hg10828.size) hi10958.size) hS10977.grw.size) hS10983.grw.size) hg11000.size), e10959, e10960, e10961, e10962, e10963, e10964, hb11002, k11015, k11014, kR10999⟩
         ·
          have h11016 := of_decide_eq_false h10993
          iterate 3 refine wpo_pass rfl rfl rfl h10993 rfl ?_
          refine wpo_pickf (v := .bool false) rfl h10993 rfl rfl ?_
          refine wpo_nil ?_
          refine wpf_condf rfl rfl ?_
          refine wpf_skip ?_
          refine thn_n ?_
          have hRw11017 := (RowsD.ge hRw10981 hS10983.grw hH (by omega))
          have k11018 := (k10979.grown hS10983.grw (some_ne (by omega)))
          have k11019 := ((ks3_R.grown hS10977.grw (some_ne (by omega))).grown hS10983.grw (some_ne (by omega)))
          exact ⟨(p10794 + 1 + 1), (⟨1 + ((r10793.th + k10872) % (ms.length : Int)), (mAt ms (((1 + ((r10793.th + k10872) % (ms.length : Int))) - 1).toNat)).t.ve, r10793.rd, r10793.wr, r10793.wk⟩ : Rt), (by omega), ⟨show (-1 : Int) ≤ 1 + ((r10793.th + k10872) % (ms.length : Int)) by omega, show 1 + ((r10793.th + k10872) % (ms.length : Int)) ≤ (9 : Int) by omega, show (-1 : Int) ≤ (mAt ms (((1 + ((r10793.th + k10872) % (ms.length : Int))) - 1).toNat)).t.ve by omega, show (mAt ms (((1 + ((r10793.th + k10872) % (ms.length : Int))) - 1).toNat)).t.ve ≤ (9 : Int) by omega⟩, hRw11017, k11018, (Nat.le_trans (Nat.le_trans (Nat.le_trans (Nat.le_trans (Nat.le_trans (Nat.le_trans (Nat.le_trans hhs hg10802.size) hN10807.grw.size) hS10811.grw.size) hg10828.size) hi10958.size) hS10977.grw.size) hS10983.grw.size), e10959, e10960, e10961, e10962, e10963, e10964, hb10984, hS10983.blk, k11018, k11019⟩
       ·
        have h11020 := of_decide_eq_false h10831
        refine wpf_skip ?_
        refine thn_n ?_
        have hRw11021 := (RowsD.lt (RowsD.ge (RowsD.low (RowsD.lt hRows hg10802 (by omega)) hN10807.grw) hS10811.grw hH (by omega)) hg10828 (by omega))
        have k11022 := (((k10808.grown0 hN10807.grw).grown hS10811.grw (some_ne (by omega))).grown hg10828 (some_ne (by omega)))
        have k11023 := (hS10811.blk.grown hg10828 (some_ne (by omega)))
        exact ⟨(p10794 + 1), r10793, (by omega), ⟨show (-1 : Int) ≤ r10793.th by omega, show r10793.th ≤ (9 : Int) by omega, show (-1 : Int) ≤ r10793.ve by omega, show r10793.ve ≤ (9 : Int) by omega⟩, hRw11021, k11022, (Nat.le_trans (Nat.le_trans (Nat.le_trans (Nat.le_trans hhs hg10802.size) hN10807.grw.size) hS10811.grw.size) hg10828.size), e10784, e10785, e10786, e10787, e10783, rfl, hb10830, k11023, k11022, kR10827⟩
      ·
       have h11024 := of_decide_eq_false h10821
       iterate 3 refine wpo_pass rfl rfl rfl h10821 rfl ?_
       refine wpo_pickf (v := .bool false) rfl h10821 rfl rfl ?_
       refine wpo_nil ?_
       refine wpf_condf rfl rfl ?_
       refine wpf_skip ?_
       refine thn_n ?_
       have hRw11025 := (RowsD.ge (RowsD.low (RowsD.lt hRows hg10802 (by omega)) hN10807.grw) hS10811.grw hH (by omega))
       have k11026 := ((k10808.grown0 hN10807.grw).grown hS10811.grw (some_ne (by omega)))
       have k11027 := ((kR10801.grown0 hN10807.grw).grown hS10811.grw (some_ne (by omega)))
       exact ⟨p10794, r10793, (by omega), ⟨show (-1 : Int) ≤ r10793.th by omega, show r10793.th ≤ (9 : Int) by omega, show (-1 : Int) ≤ r10793.ve by omega, show r10793.ve ≤ (9 : Int) by omega⟩, hRw11025, k11026, (Nat.le_trans (Nat.le_trans (Nat.le_trans hhs hg10802.size) hN10807.grw.size) hS10811.grw.size), e10784, e10785, e10786, e10787, e10783, rfl, hb10812, hS10811.blk, k11026, k11027⟩
     ·
      rintro f11028 w11029 ⟨p5, r5, hpp5, hr5, hRows, hOt, hhs, e11031, e11032, e11033, e11034, e11035, e11036, hb11030, k11037, k11038, k11039⟩
      have hr5a := hr5.1; have hr5b := hr5.2.1; have hr5c := hr5.2.2.1; have hr5d := hr5.2.2.2
      refine wpf_seq ?_
      obtain ⟨S11071, xs11072, hSa11073, hSl11074, hSO11075, hSn11076⟩ := RowD.slot (RowsD.at hRows (show i3 < ms.length by omega)) (by omega)
      have hSh11077 := hH _ (List.mem_of_getElem? (mAt_get (show i3 < ms.length by omega))) _ (Or.inl hSa11073)
      refine wpf_draw (m := 7) (vals := [(104, .slice (some ⟨Bt, 0, none⟩) ms.length ct), (105, .int .i64 (i3 : Int)), (106, .pointer (some ⟨Bt, i3 * 8, none⟩)), (107, .pointer (some ⟨Bt, i3 * 8 + 5, none⟩)), (108, .slice ((mAt ms i3).sa) ((mAt ms i3).t.slots.length) ((mAt ms i3).sc)), (109, .int .i64 (j : Int)), (110, .agg #[.int .i64 r5.th, .int .i64 r5.ve, .bool r5.rd, .bool r5.wr, .bool r5.wk])]) (fun w' => w11029.grownBy w' none) mixed_ (by kernel_rfl) (grown_drew _) ?_ ?_
      ·
       refine yll_cons rfl (fun w11079 hi11080 => ?_) ?_
       ·
        have hb11081 := low0 hb11030 hi11080
        refine wpo_move (v := .slice (some ⟨Bt, 0, none⟩) ms.length ct) e11033 rfl ?_
        exact wpo_nil ⟨rfl, hi11080⟩
       refine yll_cons rfl (fun w11082 hi11083 => ?_) ?_
       ·
        have hb11084 := low0 hb11030 hi11083
        refine wpo_move (v := .int .i64 (i3 : Int)) e11034 rfl ?_
        exact wpo_nil ⟨rfl, hi11083⟩
       refine yll_cons rfl (fun w11085 hi11086 => ?_) ?_
       ·
        have hb11087 := low0 hb11030 hi11086
        refine wpo_indexAddr (o' := i3 * 8) es_54 rfl rfl (by omega) (by omega) (by omega) rfl ?_
        exact wpo_nil ⟨rfl, hi11086⟩
       refine yll_cons rfl (fun w11088 hi11089 => ?_) ?_
       ·
        have hb11090 := low0 hb11030 hi11089
        refine wpo_fieldAddr (o' := i3 * 8 + 5) fo_45_4 rfl rfl rfl ?_
        exact wpo_nil ⟨rfl, hi11089⟩
       refine yll_cons rfl (fun w11091 hi11092 => ?_) ?_
       ·
        have hb11093 := low0 hb11030 hi11092
        have k11094 := (hOt.grown0 hi11092)
        have hRw11096 := (RowsD.low hRows hi11092)
        have hve11095 := (RowsD.at hRw11096 (show i3 < ms.length by omega)).ve
        refine wpo_load1 (v := .slice ((mAt ms i3).sa) ((mAt ms i3).t.slots.length) ((mAt ms i3).sc)) ot_27 rfl ((Own.range wide_mth k11094 (mAt_get (show i3 < ms.length by omega))) 5 _ rfl) rfl ?_
        exact wpo_nil ⟨rfl, hi11092⟩
       refine yll_cons rfl (fun w11097 hi11098 => ?_) ?_
       ·
        have hb11099 := low0 hb11030 hi11098
        refine wpo_move (v := .int .i64 (j : Int)) e11035 rfl ?_
        exact wpo_nil ⟨rfl, hi11098⟩
       refine yll_cons rfl (fun w11100 hi11101 => ?_) ?_
       ·
        have hb11102 := low0 hb11030 hi11101
        have k11103 := (k11037.grown0 hi11101)
        refine wpo_loadn (vs := [.int .i64 r5.th, .int .i64 r5.ve, .bool r5.rd, .bool r5.wr, .bool r5.wk]) rt_29 e11036 rfl (k11103.rangeL 0 5 rfl) rfl ?_
        exact wpo_nil ⟨rfl, hi11101⟩
       exact yll_nil
      ·
       intro w11104 hi11105
       have hb11106 := low0 hb11030 hi11105
       refine wpo_indexE es_27 rfl rfl hSa11073 (Nat.zero_add _) (by omega) (by omega) rfl ?_
       have hSO11107 := (hSO11075.grown0 hi11105)
       have hRB11111 : RB r5 := ⟨show (-1 : Int) ≤ r5.th by omega, show r5.th ≤ (9 : Int) by omega, show (-1 : Int) ≤ r5.ve by omega, show r5.ve ≤ (9 : Int) by omega⟩
       have k11112 := (k11037.grown0 hi11105)
       have k11114 := (hOt.grown0 hi11105)
       have hne11113 := own_ne k11114 hSO11107 (by decide)
       have k11115 := (k11039.grown0 hi11105)
       have hRw11116 := (RowsD.low hRows hi11105)
       refine wpo_storeD (z' := r5) rt_29 rfl rfl hSO11107 (by omega) rfl ?_
       intro w11108 hp11109 hg11110
       have hb11117 := low1 hb11106 hg11110 (by omega)
       refine wpo_nil ?_
       refine thn_n ?_
       refine wpf_seq_region ?_
       have k11134 := (k11112.grown hg11110 (some_ne (by omega)))
       refine wpo_loadn (vs := [.int .i64 r5.th, .int .i64 r5.ve, .bool r5.rd, .bool r5.wr, .bool r5.wk]) rt_29 e11036 rfl (k11134.rangeL 0 5 rfl) rfl ?_
       refine wpo_call (vs := [.agg #[.int .i64 r5.th, .int .i64 r5.ve, .bool r5.rd, .bool r5.wr, .bool r5.wk]]) gf_54 (args_cons rfl args_nil) rfl (sRightOk_c r5 _) ?_
       rintro _ w11135 ⟨rfl, hg11136⟩
       have hb11137 := low0 hb11117 hg11136
       refine wpo_not (b' := !rightOk r5) rfl rfl rfl ?_
       refine wpo_move (v := .bool (!rightOk r5)) rfl rfl ?_
       rcases bcases (!rightOk r5) with h11138 | h11138
       ·
        have h11139 := nt_t h11138
        refine wpo_run rfl rfl rfl h11138 ?_
        refine wpo_move (v := .pointer (some ⟨R, 0, none⟩)) e11031 rfl ?_
        refine wpo_run rfl rfl rfl h11138 ?_
        have k11140 := ((k11115.grown hg11110 (some_ne (by omega))).grown0 hg11136)
        refine wpo_call (vs := [.pointer (some ⟨R, 0, none⟩), .int .i64 3]) gf_60 (args_cons rfl (args_cons rfl args_nil)) rfl (pick_c p5 3 (by omega) _ R bs _ _ _ k11140 (by omega) (SlLt.low1 hs hb11137 hlo) (by first | exact hb | exact fun b h => hb b (List.mem_of_mem_take h)) (by first | omega | (rw [List.length_take]; omega))) ?_
        rintro _ w11146 ⟨k11141, rfl, hk11142, hk11143, kR11144, hg11145⟩
        have hb11147 := grown_trans hb11137 hg11145
        refine wpo_run rfl rfl rfl h11138 ?_
        refine wpo_gtr (q := decide (0 < k11141)) rfl rfl rfl rfl ?_
        refine wpo_pickt (v := .bool (decide (0 < k11141))) rfl h11138 rfl rfl ?_
        refine wpo_nil ?_
        refine wpf_cond rfl (fun h11148 => ?_) (fun h11148 => ?_)
        ·
         have h11149 := of_decide_eq_true h11148
         refine wpf_region ?_
         refine wpo_move (v := .slice (some ⟨Bt, 0, none⟩) ms.length ct) e11033 rfl ?_
         refine wpo_move (v := .int .i64 (i3 : Int)) e11034 rfl ?_
         refine wpo_indexAddr (o' := i3 * 8) es_54 rfl rfl (by omega) (by omega) (by omega) rfl ?_
         refine wpo_fieldAddr (o' := i3 * 8 + 5) fo_45_4 rfl rfl rfl ?_
         have k11150 := (((k11114.grown hg11110 (some_ne (by omega))).grown0 hg11136).grown hg11145 (some_ne (by omega)))
         have hRw11152 := (RowsD.lt (RowsD.low (RowsD.put hRw11116 hp11109 hg11110 hRB11111 hSO11107 (by decide)) hg11136) hg11145 (by omega))
         have hve11151 := (RowsD.at hRw11152 (show i3 < ms.length by omega)).ve
         refine wpo_load1 (v := .slice ((mAt ms i3).sa) ((mAt ms i3).t.slots.length) ((mAt ms i3).sc)) ot_27 rfl ((Own.range wide_mth k11150 (mAt_get (show i3 < ms.length by omega))) 5 _ rfl) rfl ?_
         refine wpo_move (v := .int .i64 (j : Int)) e11035 rfl ?_
         refine wpo_build (ps := []) (v := .agg #[.int .i64 0, .int .i64 0, .bool false, .bool false, .bool false]) parts_nil (by kernel_rfl) rfl ?_
         obtain ⟨S11153, xs11154, hSa11155, hSl11156, hSO11157, hSn11158⟩ := RowD.slot (RowsD.at hRw11152 (show i3 < ms.length by omega)) (by omega)
         have hSh11159 := hH _ (List.mem_of_getElem? (mAt_get (show i3 < ms.length by omega))) _ (Or.inl hSa11155)
         refine wpo_indexE es_27 rfl rfl hSa11155 (Nat.zero_add _) (by omega) (by omega) rfl ?_
         have hSO11160 := hSO11157
         have hRB11164 : RB (⟨0, 0, false, false, false⟩ : Rt) := ⟨show (-1 : Int) ≤ 0 by omega, show 0 ≤ (9 : Int) by omega, show (-1 : Int) ≤ 0 by omega, show 0 ≤ (9 : Int) by omega⟩
         have k11165 := ((k11134.grown0 hg11136).grown hg11145 (some_ne (by omega)))
         have hne11166 := own_ne k11150 hSO11160 (by decide)
         refine wpo_storeD (z' := (⟨0, 0, false, false, false⟩ : Rt)) rt_29 rfl rfl hSO11160 (by omega) rfl ?_
         intro w11161 hp11162 hg11163
         have hb11167 := low1 hb11147 hg11163 (by omega)
         refine wpo_nil ?_
         refine blk_n ?_
         refine thn_n ?_
         refine wpf_region ?_
         refine wpo_move (v := .int .i64 (j : Int)) e11035 rfl ?_
         refine wpo_add (c := (j : Int) + 1) rfl rfl (by omega) (by omega) (by omega) rfl ?_
         refine wpo_assign (v := .int .i64 ((j : Int) + 1)) rfl rfl ?_
         refine wpo_nil ?_
         refine thn_n ?_
         have hRw11168 := (RowsD.put hRw11152 hp11162 hg11163 hRB11164 hSO11160 (by decide))
         have k11169 := (k11150.grown hg11163 (some_ne (by omega)))
         have k11170 := (kR11144.grown hg11163 (some_ne (by omega)))
         exact ⟨(mAt ms i3).t.slots.length - (j + 1), by omega, (j + 1), (p5 + 1), rfl, (by omega), (by omega), hRw11168, k11169, (Nat.le_trans (Nat.le_trans (Nat.le_trans (Nat.le_trans (Nat.le_trans hhs hi11105.size) hg11110.size) hg11136.size) hg11145.size) hg11163.size), rfl, e11031, e11032, e11033, e11034, hb11167, k11169, k11170⟩
        ·
         have h11171 := of_decide_eq_false h11148
         refine wpf_skip ?_
         refine blk_n ?_
         refine thn_n ?_
         refine wpf_region ?_
         refine wpo_move (v := .int .i64 (j : Int)) e11035 rfl ?_
         refine wpo_add (c := (j : Int) + 1) rfl rfl (by omega) (by omega) (by omega) rfl ?_
         refine wpo_assign (v := .int .i64 ((j : Int) + 1)) rfl rfl ?_
         refine wpo_nil ?_
         refine thn_n ?_
         have hRw11172 := (RowsD.lt (RowsD.low (RowsD.put hRw11116 hp11109 hg11110 hRB11111 hSO11107 (by decide)) hg11136) hg11145 (by omega))
         have k11173 := (((k11114.grown hg11110 (some_ne (by omega))).grown0 hg11136).grown hg11145 (some_ne (by omega)))
         exact ⟨(mAt ms i3).t.slots.length - (j + 1), by omega, (j + 1), (p5 + 1), rfl, (by omega), (by omega), hRw11172, k11173, (Nat.le_trans (Nat.le_trans (Nat.le_trans (Nat.le_trans hhs hi11105.size) hg11110.size) hg11136.size) hg11145.size), rfl, e11031, e11032, e11033, e11034, hb11147, k11173, kR11144⟩
       ·
        have h11174 := nt_f h11138
        iterate 3 refine wpo_pass rfl rfl rfl h11138 rfl ?_
        refine wpo_pickf (v := .bool false) rfl h11138 rfl rfl ?_
        refine wpo_nil ?_
        refine wpf_condf rfl rfl ?_
        refine wpf_skip ?_
        refine blk_n ?_
        refine thn_n ?_
        refine wpf_region ?_
        refine wpo_move (v := .int .i64 (j : Int)) e11035 rfl ?_
        refine wpo_add (c := (j : Int) + 1) rfl rfl (by omega) (by omega) (by omega) rfl ?_
        refine wpo_assign (v := .int .i64 ((j : Int) + 1)) rfl rfl ?_
        refine wpo_nil ?_
        refine thn_n ?_
        have hRw11175 := (RowsD.low (RowsD.put hRw11116 hp11109 hg11110 hRB11111 hSO11107 (by decide)) hg11136)
        have k11176 := ((k11114.grown hg11110 (some_ne (by omega))).grown0 hg11136)
        have k11177 := ((k11115.grown hg11110 (some_ne (by omega))).grown0 hg11136)
        exact ⟨(mAt ms i3).t.slots.length - (j + 1), by omega, (j + 1), p5, rfl, (by omega), (by omega), hRw11175, k11176, (Nat.le_trans (Nat.le_trans (Nat.le_trans hhs hi11105.size) hg11110.size) hg11136.size), rfl, e11031, e11032, e11033, e11034, hb11137, k11176, k11177⟩
    ·
     have h11178 := of_decide_eq_false h10791
     refine wpf_exit ?_
     refine thn_e ?_
     refine thn_e ?_
     refine blk_e ?_
     refine blk_n ?_
     refine thn_n ?_
     refine wpf_region ?_
     refine wpo_move (v := .int .i64 (i3 : Int)) e10787 rfl ?_
     refine wpo_add (c := (i3 : Int) + 1) rfl rfl (by omega) (by omega) (by omega) rfl ?_
     refine wpo_assign (v := .int .i64 ((i3 : Int) + 1)) rfl rfl ?_
     refine wpo_nil ?_
     refine thn_n ?_
     exact ⟨ms.length - (i3 + 1), by omega, (i3 + 1), p4, rfl, (by omega), (by omega), hRows, hOt, hhs, rfl, e10784, e10785, e10786, hb10781, hOt, k10789⟩
   ·
    have h11179 := of_decide_eq_false h10777
    refine wpf_exit ?_
    refine thn_e ?_
    refine thn_e ?_
    refine blk_e ?_
    refine thn_n ?_
    refine wpf_seq ?_
    refine wpf_seq_region ?_
    refine wpo_move (v := .pointer (some ⟨R, 0, none⟩)) e10772 rfl ?_
    refine wpo_call (vs := [.pointer (some ⟨R, 0, none⟩), .int .i64 30]) gf_60 (args_cons rfl (args_cons rfl args_nil)) rfl (pick_c p3 30 (by omega) _ R bs _ _ _ k10776 (by omega) (SlLt.low1 hs hb10769 hlo) (by first | exact hb | exact fun b h => hb b (List.mem_of_mem_take h)) (by first | omega | (rw [List.length_take]; omega))) ?_
    rintro _ w11185 ⟨k11180, rfl, hk11181, hk11182, kR11183, hg11184⟩
    have hb11186 := grown_trans hb10769 hg11184
    refine wpo_eql (q := decide (k11180 = 0)) rfl rfl rfl rfl ?_
    refine wpo_nil ?_
    refine wpf_cond rfl (fun h11187 => ?_) (fun h11187 => ?_)
    ·
     have h11188 := of_decide_eq_true h11187
     refine wpf_region ?_
     refine wpo_move (v := .slice (some ⟨Bt, 0, none⟩) ms.length ct) e10774 rfl ?_
     refine wpo_move (v := .pointer (some ⟨R, 0, none⟩)) e10772 rfl ?_
     refine wpo_move (v := .slice (some ⟨Bt, 0, none⟩) ms.length ct) e10774 rfl ?_
     refine wpo_len (by kernel_rfl) rfl rfl ?_
     refine wpo_call (vs := [.pointer (some ⟨R, 0, none⟩), .int .i64 (ms.length : Int)]) gf_60 (args_cons rfl (args_cons rfl args_nil)) rfl (pick_c (p3 + 1) (ms.length : Int) (by omega) _ R bs _ _ _ kR11183 (by omega) (SlLt.low1 hs hb11186 hlo) (by first | exact hb | exact fun b h => hb b (List.mem_of_mem_take h)) (by first | omega | (rw [List.length_take]; omega))) ?_
     rintro _ w11194 ⟨k11189, rfl, hk11190, hk11191, kR11192, hg11193⟩
     have hb11195 := grown_trans hb11186 hg11193
     refine wpo_move (v := .pointer (some ⟨R, 0, none⟩)) e10772 rfl ?_
     refine wpo_call (vs := [.pointer (some ⟨R, 0, none⟩), .int .i64 5]) gf_60 (args_cons rfl (args_cons rfl args_nil)) rfl (pick_c (p3 + 1 + 1) 5 (by omega) _ R bs _ _ _ kR11192 (by omega) (SlLt.low1 hs hb11195 hlo) (by first | exact hb | exact fun b h => hb b (List.mem_of_mem_take h)) (by first | omega | (rw [List.length_take]; omega))) ?_
     rintro _ w11201 ⟨k11196, rfl, hk11197, hk11198, kR11199, hg11200⟩
     have hb11202 := grown_trans hb11195 hg11200
     refine wpo_add (c := 1 + k11196) rfl rfl (by omega) (by omega) (by omega) rfl ?_
     refine wpo_indexAddr (o' := (k11189).toNat * 8) es_54 rfl rfl (by omega) (by omega) (by omega) rfl ?_
     refine wpo_fieldAddr (o' := (k11189).toNat * 8) fo_45_0 rfl rfl rfl ?_
     have k11203 := (((hOt.grown hg11184 (some_ne (by omega))).grown hg11193 (some_ne (by omega))).grown hg11200 (some_ne (by omega)))
     have hRw11208 := (RowsD.lt (RowsD.lt (RowsD.lt hRows hg11184 (by omega)) hg11193 (by omega)) hg11200 (by omega))
     have hve11207 := (RowsD.at hRw11208 (show (k11189).toNat < ms.length by omega)).ve
     refine wpo_store1O (g := MTh.cells) (j := 0) (z := (mAt ms ((k11189).toNat))) (z' := (⟨⟨1 + k11196, ((mAt ms ((k11189).toNat)).t.lab), (mAt ms ((k11189).toNat)).t.ve, (mAt ms ((k11189).toNat)).t.num, (mAt ms ((k11189).toNat)).t.slots, (mAt ms ((k11189).toNat)).t.queue, (mAt ms ((k11189).toNat)).t.to⟩, (mAt ms ((k11189).toNat)).sa, (mAt ms ((k11189).toNat)).sc, (mAt ms ((k11189).toNat)).qa, (mAt ms ((k11189).toNat)).qc⟩ : MTh)) (v := .int .i64 (1 + k11196)) ot_3 rfl rfl rfl wide_mth k11203 (mAt_get (show (k11189).toNat < ms.length by omega)) (by omega) rfl rfl ?_
     intro w11204 hO11205 hg11206
     have hb11209 := low1 hb11202 hg11206 (by omega)
     refine wpo_nil ?_
     refine thn_n ?_
     refine wpf_seq_region ?_
     refine wpo_move (v := .slice (some ⟨Bt, 0, none⟩) ms.length ct) e10774 rfl ?_
     refine wpo_assign (v := .slice (some ⟨Bt, 0, none⟩) ms.length ct) rfl rfl ?_
     refine wpo_nil ?_
     refine wpf_ret ?_
     have hRw11210 := (RowsD.typ hRw11208 hg11206 k11203 (by decide) (by decide))
     obtain ⟨ms9, hc9, hx9, hs9⟩ := RowsD.tab _ (RowsD.setk (i := (k11189).toNat) (m' := (⟨⟨1 + k11196, ((mAt ms ((k11189).toNat)).t.lab), (mAt ms ((k11189).toNat)).t.ve, (mAt ms ((k11189).toNat)).t.num, (mAt ms ((k11189).toNat)).t.slots, (mAt ms ((k11189).toNat)).t.queue, (mAt ms ((k11189).toNat)).t.to⟩, (mAt ms ((k11189).toNat)).sa, (mAt ms ((k11189).toNat)).sc, (mAt ms ((k11189).toNat)).qa, (mAt ms ((k11189).toNat)).qc⟩ : MTh)) hRw11210 (by omega) ⟨rfl, rfl, rfl⟩ ⟨rfl, rfl, rfl⟩ rfl)
     have hl9 := congrArg List.length hc9
     simp only [List.length_map, List.length_set] at hl9
     have ho9 := hO11205
     rw [← tab_flat hc9] at ho9
     have k11211 := (kR11199.grown hg11206 (some_ne (by omega)))
     refine ⟨.slice (some ⟨Bt, 0, none⟩) ms.length ct, res1 rfl rfl, Bt, ct, ms9, (p3 + 1 + 1 + 1), ?_, ⟨SlG.own wide_mth ho9 hlBt, hx9⟩, hs9, by omega, by omega, by omega, k11211, hb11209⟩
     show Value.slice _ _ _ = Value.slice _ _ _
     congr 1; first | omega | (simp only [List.length_set]; omega)
    ·
     have h11212 := of_decide_eq_false h11187
     refine wpf_skip ?_
     refine thn_n ?_
     refine wpf_seq_region ?_
     refine wpo_move (v := .slice (some ⟨Bt, 0, none⟩) ms.length ct) e10774 rfl ?_
     refine wpo_assign (v := .slice (some ⟨Bt, 0, none⟩) ms.length ct) rfl rfl ?_
     refine wpo_nil ?_
     refine wpf_ret ?_
     have hRw11213 := (RowsD.lt hRows hg11184 (by omega))
     have k11214 := (hOt.grown hg11184 (some_ne (by omega)))
     obtain ⟨ms9, hc9, hx9, hs9⟩ := RowsD.tab _ hRw11213
     have hl9 := congrArg List.length hc9
     simp only [List.length_map, List.length_set] at hl9
     have ho9 := k11214
     rw [← tab_flat hc9] at ho9
     refine ⟨.slice (some ⟨Bt, 0, none⟩) ms.length ct, res1 rfl rfl, Bt, ct, ms9, (p3 + 1), ?_, ⟨SlG.own wide_mth ho9 hlBt, hx9⟩, hs9, by omega, by omega, by omega, kR11183, hb11186⟩
     show Value.slice _ _ _ = Value.slice _ _ _
     congr 1; first | omega | (simp only [List.length_set]; omega)

theorem l71Fine_c (p : Int) (hp : 0 ≤ p ∧ p ≤ 999999980000) (lo R : Nat) (bs : List Int) (a : Option Addr) (c : Nat) (w : World) (hR : Blk w R 121 #[.slice a bs.length c, .int .i64 p]) (hlo : lo ≤ R) (hs : SlLt lo w a 1 (bs.map bcell)) (hb : ∀ b ∈ bs, 0 ≤ b ∧ b ≤ 255) (hn : bs.length ≤ 1048576) : CallsR Try.prog 82 #[.pointer (some ⟨R, 0, none⟩)] w (fun v w' => ∃ (B cap : Nat) (ms : List MTh) (p' : Int), v = .slice (some ⟨B, 0, none⟩) ms.length cap ∧ TabG w.heap.size w' (some ⟨B, 0, none⟩) ms ∧ Small ms ∧ (3 ≤ ms.length ∧ ms.length ≤ 8) ∧ p ≤ p' ∧ p' ≤ p + 4000 ∧ Blk w' R 121 #[.slice a bs.length c, .int .i64 p'] ∧ w.grownBy w' (some R)) := by
 refine calls_of_wpf (n := 24) Try.func82 rfl Try.ntmps82 rfl ?_
 have hb0 := World.grownBy.refl w (some R)
 have hRlt := hR.lt
 refine wpf_seq_region ?_
 refine wpo_assign (v := .slice none 0 0) rfl rfl ?_
 refine wpo_nil ?_
 refine wpf_seq_region ?_
 refine wpo_move (v := .pointer (some ⟨R, 0, none⟩)) rfl rfl ?_
 refine wpo_call (vs := [.pointer (some ⟨R, 0, none⟩)]) gf_102 (args_cons rfl args_nil) rfl (l71Table_c p (by omega) _ R bs _ _ _ hR (by omega) (SlLt.low1 hs hb0 hlo) (by first | exact hb | exact fun b h => hb b (List.mem_of_mem_take h)) (by first | omega | (rw [List.length_take]; omega))) ?_
 rintro _ w11226 ⟨B11215, cap11216, ms11217, p11218, rfl, hTG11219, hTS11220, hTn11221, hp11222, hp11223, kR11224, hg11225⟩
 have hb11227 := grown_trans hb0 hg11225
 have hTG11228 := TabG.mono hTG11219 hb0.size
 have hTl11229 := hTS11220.len
 refine wpo_assign (v := .slice (some ⟨B11215, 0, none⟩) ms11217.length cap11216) rfl rfl ?_
 refine wpo_nil ?_
 refine wpf_seq ?_
 refine wpf_seq_region ?_
 refine wpo_assign (v := .int .i64 0) rfl rfl ?_
 refine wpo_nil ?_
 refine wpf_block ?_
 refine wpf_loopN (fun mm f' w' => ∃ (i : Nat) (p1 : Int) (B : Nat) (cap : Nat) (ms : List MTh), mm = 4 - i ∧ i ≤ 4 ∧ (p ≤ p1 ∧ p1 ≤ p + 600 + 601 * (i : Int)) ∧ TabG w.heap.size w' (some ⟨B, 0, none⟩) ms ∧ Small ms ∧ (3 ≤ ms.length ∧ ms.length ≤ 8) ∧ f' 3 = .slice (some ⟨B, 0, none⟩) ms.length cap ∧ f' 4 = .int .i64 (i : Int) ∧ f' 0 = .pointer (some ⟨R, 0, none⟩) ∧ f' 2 = .slice none 0 0 ∧ w.grownBy w' (some R) ∧ Blk w' R 121 #[.slice a bs.length c, .int .i64 p1]) (4 - 0) ⟨0, p11218, B11215, cap11216, ms11217, rfl, (Nat.zero_le _), (by omega), hTG11228, hTS11220, hTn11221, rfl, rfl, rfl, rfl, hb11227, kR11224⟩ ?_
 rintro mm f11230 w11231 ⟨i, p1, B, cap, ms, hm11233, hi, hpp, hTG, hTS, hTn, e11234, e11235, e11236, e11237, hb11232, k11238⟩
 have hTl11239 := hTS.len
 refine wpf_seq ?_
 refine wpf_seq_region ?_
 refine wpo_move (v := .int .i64 (i : Int)) e11235 rfl ?_
 refine wpo_lss (q := decide ((i : Int) < 4)) rfl rfl rfl rfl ?_
 refine wpo_move (v := .bool (decide ((i : Int) < 4))) rfl rfl ?_
 rcases bcases (decide ((i : Int) < 4)) with h11251 | h11251
 ·
  have h11252 := of_decide_eq_true h11251
  refine wpo_run rfl rfl rfl h11251 ?_
  refine wpo_move (v := .pointer (some ⟨R, 0, none⟩)) e11236 rfl ?_
  refine wpo_run rfl rfl rfl h11251 ?_
  refine wpo_call (vs := [.pointer (some ⟨R, 0, none⟩), .int .i64 16]) gf_60 (args_cons rfl (args_cons rfl args_nil)) rfl (pick_c p1 16 (by omega) _ R bs _ _ _ k11238 (by omega) (SlLt.low1 hs hb11232 hlo) (by first | exact hb | exact fun b h => hb b (List.mem_of_mem_take h)) (by first | omega | (rw [List.length_take]; omega))) ?_
  rintro _ w11258 ⟨k11253, rfl, hk11254, hk11255, kR11256, hg11257⟩
  have hb11259 := grown_trans hb11232 hg11257
  refine wpo_run rfl rfl rfl h11251 ?_
  refine wpo_gtr (q := decide (0 < k11253)) rfl rfl rfl rfl ?_
  refine wpo_pickt (v := .bool (decide (0 < k11253))) rfl h11251 rfl rfl ?_
  refine wpo_move (v := .bool (decide (0 < k11253))) rfl rfl ?_
  rcases bcases (decide (0 < k11253)) with h11260 | h11260
  ·
   have h11261 := of_decide_eq_true h11260
   refine wpo_run rfl rfl rfl h11260 ?_
   refine wpo_move (v := .slice (some ⟨B, 0, none⟩) ms.length cap) e11234 rfl ?_
   refine wpo_run rfl rfl rfl h11260 ?_
   have hTG11262 := (TabG.lt hTG hg11257 (by omega))
   refine wpo_call (vs := [.slice (some ⟨B, 0, none⟩) ms.length cap]) gf_34 (args_cons rfl args_nil) rfl (sTableOk_c  _ ms _ _ (TabG.at hTG11262) hTl11239 (by omega)) ?_
   rintro _ w11263 ⟨rfl, hg11264⟩
   have hb11265 := low0 hb11259 hg11264
   refine wpo_run rfl rfl rfl h11260 ?_
   refine wpo_not (b' := !tableOk (tabT ms)) rfl rfl rfl ?_
   refine wpo_pickt (v := .bool (!tableOk (tabT ms))) rfl h11260 rfl rfl ?_
   refine wpo_nil ?_
   refine wpf_cond rfl (fun h11266 => ?_) (fun h11266 => ?_)
   ·
    have h11267 := nt_t h11266
    refine wpf_skip ?_
    refine thn_n ?_
    refine wpf_seq ?_
    refine wpf_block ?_
    refine wpf_region ?_
    refine wpo_move (v := .pointer (some ⟨R, 0, none⟩)) e11236 rfl ?_
    have k11268 := (kR11256.grown0 hg11264)
    refine wpo_call (vs := [.pointer (some ⟨R, 0, none⟩)]) gf_102 (args_cons rfl args_nil) rfl (l71Table_c (p1 + 1) (by omega) _ R bs _ _ _ k11268 (by omega) (SlLt.low1 hs hb11265 hlo) (by first | exact hb | exact fun b h => hb b (List.mem_of_mem_take h)) (by first | omega | (rw [List.length_take]; omega))) ?_
    rintro _ w11280 ⟨B11269, cap11270, ms11271, p11272, rfl, hTG11273, hTS11274, hTn11275, hp11276, hp11277, kR11278, hg11279⟩
    have hb11281 := grown_trans hb11265 hg11279
    have hTG11282 := TabG.mono hTG11273 hb11265.size
    have hTl11283 := hTS11274.len
    refine wpo_assign (v := .slice (some ⟨B11269, 0, none⟩) ms11271.length cap11270) rfl rfl ?_
    refine wpo_nil ?_
    refine blk_n ?_
    refine thn_n ?_
    refine wpf_region ?_
    refine wpo_move (v := .int .i64 (i : Int)) e11235 rfl ?_
    refine wpo_add (c := (i : Int) + 1) rfl rfl (by omega) (by omega) (by omega) rfl ?_
    refine wpo_assign (v := .int .i64 ((i : Int) + 1)) rfl rfl ?_
    refine wpo_nil ?_
    refine thn_n ?_
    exact ⟨4 - (i + 1), by omega, (i + 1), p11272, B11269, cap11270, ms11271, rfl, (by omega), (by omega), hTG11282, hTS11274, hTn11275, rfl, rfl, e11236, e11237, hb11281, kR11278⟩
   ·
    have h11284 := nt_f h11266
    refine wpf_exit ?_
    refine thn_e ?_
    refine thn_e ?_
    refine blk_e ?_
    refine thn_n ?_
    refine wpf_seq_region ?_
    refine wpo_move (v := .slice (some ⟨B, 0, none⟩) ms.length cap) e11234 rfl ?_
    refine wpo_assign (v := .slice (some ⟨B, 0, none⟩) ms.length cap) rfl rfl ?_
    refine wpo_nil ?_
    refine wpf_ret ?_
    have hTG11285 := (TabG.low hTG11262 hg11264)
    have k11286 := (kR11256.grown0 hg11264)
    exact ⟨.slice (some ⟨B, 0, none⟩) ms.length cap, res1 rfl rfl, B, cap, ms, (p1 + 1), rfl, hTG11285, hTS, hTn, by omega, by omega, k11286, hb11265⟩
  ·
   have h11287 := of_decide_eq_false h11260
   iterate 3 refine wpo_pass rfl rfl rfl h11260 rfl ?_
   refine wpo_pickf (v := .bool false) rfl h11260 rfl rfl ?_
   refine wpo_nil ?_
   refine wpf_condf rfl rfl ?_
   refine wpf_exit ?_
   refine thn_e ?_
   refine thn_e ?_
   refine blk_e ?_
   refine thn_n ?_
   refine wpf_seq_region ?_
   refine wpo_move (v := .slice (some ⟨B, 0, none⟩) ms.length cap) e11234 rfl ?_
   refine wpo_assign (v := .slice (some ⟨B, 0, none⟩) ms.length cap) rfl rfl ?_
   refine wpo_nil ?_
   refine wpf_ret ?_
   have hTG11288 := (TabG.lt hTG hg11257 (by omega))
   exact ⟨.slice (some ⟨B, 0, none⟩) ms.length cap, res1 rfl rfl, B, cap, ms, (p1 + 1), rfl, hTG11288, hTS, hTn, by omega, by omega, kR11256, hb11259⟩
 ·
  have h11289 := of_decide_eq_false h11251
  iterate 3 refine wpo_pass rfl rfl rfl h11251 rfl ?_
  refine wpo_pickf (v := .bool false) rfl h11251 rfl rfl ?_
  refine wpo_move (v := .bool false) rfl rfl ?_
  iterate 3 refine wpo_pass rfl rfl rfl rfl rfl ?_
  refine wpo_pickf (v := .bool false) rfl rfl rfl rfl ?_
  refine wpo_nil ?_
  refine wpf_condf rfl rfl ?_
  refine wpf_exit ?_
  refine thn_e ?_
  refine thn_e ?_
  refine blk_e ?_
  refine thn_n ?_
  refine wpf_seq_region ?_
  refine wpo_move (v := .slice (some ⟨B, 0, none⟩) ms.length cap) e11234 rfl ?_
  refine wpo_assign (v := .slice (some ⟨B, 0, none⟩) ms.length cap) rfl rfl ?_
  refine wpo_nil ?_
  refine wpf_ret ?_
  exact ⟨.slice (some ⟨B, 0, none⟩) ms.length cap, res1 rfl rfl, B, cap, ms, p1, rfl, hTG, hTS, hTn, by omega, by omega, k11238, hb11232⟩

theorem DrawViewHigh_c (bs : List Int) (a : Option Addr) (c : Nat) (w : World) (hs0 : SlAt w a 1 (bs.map bcell)) (hb : ∀ b ∈ bs, 0 ≤ b ∧ b ≤ 255) (hn : bs.length ≤ 1048576) (hc : bs.length ≤ c) : CallsR Try.prog 31 #[.slice a bs.length c] w (fun v w' => ∃ (B cap : Nat) (ms : List MTh) (k : Int) (l : Lab), v = .tuple #[.slice (some ⟨B, 0, none⟩) ms.length cap, .int .i64 k, .agg #[.int .i64 l.s, .int .i64 l.v]] ∧ TabG w.heap.size w' (some ⟨B, 0, none⟩) ms ∧ Small ms ∧ (3 ≤ ms.length ∧ ms.length ≤ 8) ∧ (1 ≤ k ∧ k ≤ 16) ∧ (-1 ≤ l.s ∧ l.s ≤ 4 ∧ 0 ≤ l.v ∧ l.v ≤ 3) ∧ w.grownBy w' none) := by
 refine calls_of_wpf (n := 24) Try.func31 rfl Try.ntmps31 rfl ?_
 have hb0 := World.grownBy.refl w none
 have hs := SlAt.lt wide_b (by omega) hs0
 refine wpf_seq_region ?_
 refine wpo_assign (v := .slice none 0 0) rfl rfl ?_
 refine wpo_assign (v := .int .i64 0) rfl rfl ?_
 refine wpo_alloc (cs := #[.int .i64 0, .int .i64 0]) zt_40 rfl rfl ?_
 intro B11290 w11291 hN11292
 have hlB11290 := hN_ge hN11292 hb0
 have hb11293 := low0 hb0 hN11292.grw
 refine wpo_nil ?_
 refine wpf_seq_region ?_
 refine wpo_move (v := .slice a bs.length c) rfl rfl ?_
 refine wpo_call (vs := [.slice a bs.length c]) gf_59 (args_cons rfl args_nil) rfl (l6Open_c bs a c _ (by omega) (by omega)) ?_
 rintro _ w11298 ⟨R11294, rfl, hge11295, kR11296, hg11297⟩
 have hb11299 := low0 hb11293 hg11297
 have hlR11294 := Nat.le_trans hb11293.size hge11295
 have lt_B11290_R11294 := Nat.lt_of_lt_of_le (hN11292.blk).lt hge11295
 refine wpo_assign (v := .pointer (some ⟨R11294, 0, none⟩)) rfl rfl ?_
 refine wpo_nil ?_
 refine wpf_seq_region ?_
 refine wpo_move (v := .pointer (some ⟨R11294, 0, none⟩)) rfl rfl ?_
 have k11301 := (hN11292.blk.grown0 hg11297)
 have hlt11300 := (k11301).lt
 have hlt11302 := (kR11296).lt
 refine wpo_call (vs := [.pointer (some ⟨R11294, 0, none⟩)]) gf_82 (args_cons rfl args_nil) rfl (l71Fine_c 0 (by omega) _ R11294 (bs.take 2000) _ _ _ kR11296 (by omega) (SlLt.low0 (SlLt.take hs 2000) hb11299) (by first | exact hb | exact fun b h => hb b (List.mem_of_mem_take h)) (by first | omega | (rw [List.length_take]; omega))) ?_
 rintro _ w11314 ⟨B11303, cap11304, ms11305, p11306, rfl, hTG11307, hTS11308, hTn11309, hp11310, hp11311, kR11312, hg11313⟩
 have hb11315 := low1 hb11299 hg11313 (by omega)
 have hTl11316 := hTS11308.len
 refine wpo_assign (v := .slice (some ⟨B11303, 0, none⟩) ms11305.length cap11304) rfl rfl ?_
 refine wpo_nil ?_
 refine wpf_seq_region ?_
 refine wpo_move (v := .slice (some ⟨B11303, 0, none⟩) ms11305.length cap11304) rfl rfl ?_
 refine wpo_move (v := .pointer (some ⟨R11294, 0, none⟩)) rfl rfl ?_
 refine wpo_move (v := .slice (some ⟨B11303, 0, none⟩) ms11305.length cap11304) rfl rfl ?_
 refine wpo_len (by kernel_rfl) rfl rfl ?_
 refine wpo_call (vs := [.pointer (some ⟨R11294, 0, none⟩), .int .i64 (ms11305.length : Int)]) gf_60 (args_cons rfl (args_cons rfl args_nil)) rfl (pick_c p11306 (ms11305.length : Int) (by omega) _ R11294 (bs.take 2000) _ _ _ kR11312 (by omega) (SlLt.low0 (SlLt.take hs 2000) hb11315) (by first | exact hb | exact fun b h => hb b (List.mem_of_mem_take h)) (by first | omega | (rw [List.length_take]; omega))) ?_
 rintro _ w11322 ⟨k11317, rfl, hk11318, hk11319, kR11320, hg11321⟩
 have hb11323 := low1 hb11315 hg11321 (by omega)
 refine wpo_add (c := 1 + k11317) rfl rfl (by omega) (by omega) (by omega) rfl ?_
 refine wpo_move (v := .pointer (some ⟨R11294, 0, none⟩)) rfl rfl ?_
 refine wpo_call (vs := [.pointer (some ⟨R11294, 0, none⟩), .int .i64 24]) gf_60 (args_cons rfl (args_cons rfl args_nil)) rfl (pick_c (p11306 + 1) 24 (by omega) _ R11294 (bs.take 2000) _ _ _ kR11320 (by omega) (SlLt.low0 (SlLt.take hs 2000) hb11323) (by first | exact hb | exact fun b h => hb b (List.mem_of_mem_take h)) (by first | omega | (rw [List.length_take]; omega))) ?_
 rintro _ w11329 ⟨k11324, rfl, hk11325, hk11326, kR11327, hg11328⟩
 have hb11330 := low1 hb11323 hg11328 (by omega)
 refine wpo_quo (c := k11324 / 23) rfl rfl (by omega) (by omega) (by omega) rfl rfl ?_
 refine wpo_mul (c := (k11324 / 23) * 8) rfl rfl rfl (by omega) (by omega) rfl ?_
 refine wpo_add (c := 1 + k11317 + ((k11324 / 23) * 8)) rfl rfl (by omega) (by omega) (by omega) rfl ?_
 refine wpo_move (v := .pointer (some ⟨R11294, 0, none⟩)) rfl rfl ?_
 refine wpo_call (vs := [.pointer (some ⟨R11294, 0, none⟩)]) gf_65 (args_cons rfl args_nil) rfl (l71Label_c (p11306 + 1 + 1) (by omega) _ R11294 (bs.take 2000) _ _ _ kR11327 (by omega) (SlLt.low0 (SlLt.take hs 2000) hb11330) (by first | exact hb | exact fun b h => hb b (List.mem_of_mem_take h)) (by first | omega | (rw [List.length_take]; omega))) ?_
 rintro _ w11341 ⟨l11331, p11332, rfl, hr11333, hr11334, hr11335, hr11336, hp11337, hp11338, kR11339, hg11340⟩
 have hb11342 := low1 hb11330 hg11340 (by omega)
 refine wpo_assign (v := .slice (some ⟨B11303, 0, none⟩) ms11305.length cap11304) rfl rfl ?_
 refine wpo_assign (v := .int .i64 (1 + k11317 + ((k11324 / 23) * 8))) rfl rfl ?_
 have k11343 := ((((k11301.grown hg11313 (some_ne (by omega))).grown hg11321 (some_ne (by omega))).grown hg11328 (some_ne (by omega))).grown hg11340 (some_ne (by omega)))
 refine wpo_storen (vs := [.int .i64 l11331.s, .int .i64 l11331.v]) (cs' := #[.int .i64 l11331.s, .int .i64 l11331.v]) rt_40 rfl rfl rfl (by simp [Value.oneCell']) k11343 (Nat.le_of_ble_eq_true rfl) rfl ?_
 intro w11344 hS11345
 have hb11346 := low1 hb11342 hS11345.grw (by omega)
 refine wpo_nil ?_
 refine wpf_ret ?_
 have hTG11347 := (TabG.lt (TabG.lt (TabG.lt (TabG.lt hTG11307 hg11321 (by omega)) hg11328 (by omega)) hg11340 (by omega)) hS11345.grw (by omega))
 refine ⟨.tuple #[.slice (some ⟨B11303, 0, none⟩) ms11305.length cap11304, .int .i64 (1 + k11317 + ((k11324 / 23) * 8)), .agg #[.int .i64 l11331.s, .int .i64 l11331.v]], resTTC rfl rfl rfl (resCell_mk (vs := [.int .i64 l11331.s, .int .i64 l11331.v]) rt_40 rfl rfl (hS11345.blk.rangeL 0 2 rfl)), B11303, cap11304, ms11305, (1 + k11317 + ((k11324 / 23) * 8)), l11331, rfl, (TabG.mono hTG11347 hb11299.size), hTS11308, hTn11309, by omega, by omega, hb11346⟩

end Go.Proofs.Ytlkmdoebmklbbaa
