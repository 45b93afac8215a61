/- Walks, printed by a program of mine (gen.py) out of the functions. -/
import Derived.Test.YtlkmdoebmklbbaaK
namespace Go.Proofs.Ytlkmdoebmklbbaa
open Go.RowKit Go.Dw
set_option maxRecDepth 100000
set_option linter.unusedSimpArgs false
set_option linter.unusedVariables false
theorem gf_37 : goFn Try.prog 37 = true := by kernel_rfl
theorem gf_38 : goFn Try.prog 38 = true := by kernel_rfl
theorem gf_39 : goFn Try.prog 39 = true := by kernel_rfl
theorem gf_40 : goFn Try.prog 40 = true := by kernel_rfl
theorem gf_41 : goFn Try.prog 41 = true := by kernel_rfl
theorem gf_42 : goFn Try.prog 42 = true := by kernel_rfl
theorem gf_43 : goFn Try.prog 43 = true := by kernel_rfl
theorem gf_44 : goFn Try.prog 44 = true := by kernel_rfl
theorem law_FnExactRunQuiet (l : Lab) (w : World) (ms : List MTh) (a : Option Addr) (c : Nat) (ht : TabAt w a ms) (hbig : TabBig ms) (hn : ms.length ≤ 9223372036854775807) (cs : List Cl) (b : Option Addr) (e : Nat) (hs : SlAt w b 5 (cs.map Cl.cells)) (hm : cs.length ≤ 9223372036854775807) : CallsR Try.prog 9 #[.slice a ms.length c, .slice b cs.length e, .agg #[.int .i64 l.s, .int .i64 l.v]] w (fun v w' => v = .bool true ∧ w.grownBy w' none) := by
 refine calls_of_wpf (n := 51) Try.func9 rfl Try.ntmps9 rfl ?_
 have hb0 := World.grownBy.refl w none
 refine wpf_seq_region ?_
 refine wpo_box (v := .agg #[.int .i64 l.s, .int .i64 l.v]) (cs := #[.int .i64 l.s, .int .i64 l.v]) rfl rfl rfl ?_
 intro B9516 w9517 hN9518
 have hlB9516 := hN_ge hN9518 hb0
 have hb9519 := low0 hb0 hN9518.grw
 refine wpo_assign (v := .bool false) rfl rfl ?_
 refine wpo_nil ?_
 refine wpf_seq_region ?_
 refine wpo_assign (v := .int .i64 1048576) rfl rfl ?_
 refine wpo_nil ?_
 refine wpf_seq_region ?_
 refine wpo_move (v := .slice a ms.length c) rfl rfl ?_
 refine wpo_move (v := .int .i64 1048576) rfl rfl ?_
 refine wpo_call (vs := [.slice a ms.length c, .int .i64 1048576]) gf_37 (args_cons rfl (args_cons rfl args_nil)) rfl (szThingS_c 1048576 _ ms _ _ (TabAt.low ht hb9519) hbig (by omega) (by omega)) ?_
 rintro _ w9520 ⟨n9522, rfl, hn9523, hn9524, hn9525, hg9521⟩
 have hb9526 := low0 hb9519 hg9521
 refine wpo_assign (v := .int .i64 n9522) rfl rfl ?_
 refine wpo_nil ?_
 refine wpf_seq ?_
 refine wpf_seq_region ?_
 refine wpo_move (v := .int .i64 n9522) rfl rfl ?_
 refine wpo_lss (q := decide (n9522 < 0)) rfl rfl rfl rfl ?_
 refine wpo_nil ?_
 refine wpf_cond rfl (fun h9527 => ?_) (fun h9527 => ?_)
 ·
  have h9528 := of_decide_eq_true h9527
  refine wpf_seq_region ?_
  refine wpo_assign (v := .bool true) rfl rfl ?_
  refine wpo_nil ?_
  refine wpf_ret ?_
  refine thn_r ?_
  refine ⟨.bool true, res1 rfl rfl, ?_, hb9526⟩
  rfl
 ·
  obtain ⟨hlen9529, hn9530⟩ := hn9523 (by have hq := of_decide_eq_false h9527; omega)
  have h9531 := of_decide_eq_false h9527
  refine wpf_skip ?_
  refine thn_n ?_
  refine wpf_seq_region ?_
  refine wpo_move (v := .slice b cs.length e) rfl rfl ?_
  refine wpo_move (v := .int .i64 n9522) rfl rfl ?_
  refine wpo_call (vs := [.slice b cs.length e, .int .i64 n9522]) gf_40 (args_cons rfl (args_cons rfl args_nil)) rfl (szCallS_c n9522 _ cs _ _ (by omega) (by omega)) ?_
  rintro _ w9532 ⟨n9534, rfl, hn9535, hn9536, hn9537, hg9533⟩
  have hb9538 := low0 hb9526 hg9533
  refine wpo_assign (v := .int .i64 n9534) rfl rfl ?_
  refine wpo_nil ?_
  refine wpf_seq ?_
  refine wpf_seq_region ?_
  refine wpo_move (v := .int .i64 n9534) rfl rfl ?_
  refine wpo_lss (q := decide (n9534 < 0)) rfl rfl rfl rfl ?_
  refine wpo_nil ?_
  refine wpf_cond rfl (fun h9539 => ?_) (fun h9539 => ?_)
  ·
   have h9540 := of_decide_eq_true h9539
   refine wpf_seq_region ?_
   refine wpo_assign (v := .bool true) rfl rfl ?_
   refine wpo_nil ?_
   refine wpf_ret ?_
   refine thn_r ?_
   refine ⟨.bool true, res1 rfl rfl, ?_, hb9538⟩
   rfl
  ·
   have h9541 := of_decide_eq_false h9539
   refine wpf_skip ?_
   refine thn_n ?_
   refine wpf_seq ?_
   refine wpf_drawI (m := 5) [[], [0], [], [0, 1, 2], [], [0, 1, 2, 3, 4], [0, 1, 2, 3, 4, 5], [0, 1, 2, 3, 4, 5, 6]] (fun S F w' => ∃ (B9623 : Nat) (ys9624 : List MTh) (B9636 : Nat), w9532.grownBy w' none ∧ F 0 = .slice a ms.length c ∧ F 1 = .slice b cs.length e ∧ F 5 = .pointer (some ⟨B9516, 0, none⟩) ∧ F 6 = .bool false ∧ (S 0 = true → F 22 = .slice a ms.length c) ∧ (S 1 = true → F 23 = .slice (some ⟨B9623, 0, none⟩) ys9624.length ys9624.length ∧ tabT ys9624 = tabT ms ∧ TabLen ys9624 ∧ ys9624.length = ms.length ∧ TabAt w' (some ⟨B9623, 0, none⟩) ys9624) ∧ (S 2 = true → F 24 = .slice b cs.length e) ∧ (S 3 = true → F 25 = .slice (some ⟨B9636, 0, none⟩) cs.length cs.length ∧ w.heap.size ≤ B9636 ∧ Blk w' B9636 76 (cs.flatMap Cl.cells).toArray ∧ B9516 < B9636 ∧ w9532.heap.size ≤ B9636) ∧ (S 4 = true → F 26 = .agg #[.int .i64 l.s, .int .i64 l.v])) mixed_ (by kernel_rfl) ⟨0, [], 0, grown_drew _, rfl, rfl, rfl, rfl, fun h => not_begun h, fun h => not_begun h, fun h => not_begun h, fun h => not_begun h, fun h => not_begun h⟩ ?_ ?_
   ·
    refine preL_cons (fun S F w9643 hS hbef hcl hI => ?_) ?_
    ·
     obtain ⟨B9623, ys9624, B9636, hi9644, e9645, e9646, e9647, e9648, c_0, c_1, c_2, c_3, c_4⟩ := hI
     have hb9649 := low0 hb9538 hi9644
     refine wpo_move (v := .slice a ms.length c) e9645 rfl ?_
     exact wpo_nil ⟨B9623, ys9624, B9636, hi9644, e9645, e9646, e9647, e9648, fun _ => rfl, fun h => undone 1 hS hcl rfl h, c_2, fun h => undone 3 hS hcl rfl h, c_4⟩
    refine preL_cons (fun S F w9650 hS hbef hcl hI => ?_) ?_
    ·
     obtain ⟨B9623, ys9624, B9636, hi9651, e9652, e9653, e9654, e9655, c_0, c_1, c_2, c_3, c_4⟩ := hI
     have hb9656 := low0 hb9538 hi9651
     obtain e9657 := c_0 (ready_of 0 hbef rfl)
     refine wpo_call (vs := [.slice a ms.length c]) gf_38 (args_cons e9657 args_nil) rfl (toThingS_c _ ms _ _ (TabAt.low ht hb9656) hlen9529 (by omega)) ?_
     rintro _ w9665 ⟨B9658, ys9659, rfl, he9660, hge9661, k9662, hX9663, hg9664⟩
     have hb9669 := low0 hb9656 hg9664
     have hT9666 : TabAt w9665 (some ⟨B9658, 0, none⟩) ys9659 := ⟨rows_sl wide_mth k9662, fun m hm => (hX9663 m hm).at⟩
     have hTl9667 := TabLen.of he9660 hlen9529
     have hll9668 := tabT_length he9660
     exact wpo_nil ⟨B9658, ys9659, B9636, (low0 hi9651 hg9664), e9652, e9653, e9654, e9655, c_0, fun _ => ⟨rfl, he9660, hTl9667, hll9668, hT9666⟩, c_2, fun h => undone 3 hS hcl rfl h, c_4⟩
    refine preL_cons (fun S F w9670 hS hbef hcl hI => ?_) ?_
    ·
     obtain ⟨B9623, ys9624, B9636, hi9671, e9672, e9673, e9674, e9675, c_0, c_1, c_2, c_3, c_4⟩ := hI
     have hb9676 := low0 hb9538 hi9671
     refine wpo_move (v := .slice b cs.length e) e9673 rfl ?_
     exact wpo_nil ⟨B9623, ys9624, B9636, hi9671, e9672, e9673, e9674, e9675, c_0, c_1, fun _ => rfl, fun h => undone 3 hS hcl rfl h, c_4⟩
    refine preL_cons (fun S F w9677 hS hbef hcl hI => ?_) ?_
    ·
     obtain ⟨B9623, ys9624, B9636, hi9678, e9679, e9680, e9681, e9682, c_0, c_1, c_2, c_3, c_4⟩ := hI
     have hb9683 := low0 hb9538 hi9678
     obtain e9684 := c_0 (ready_of 0 hbef rfl)
     obtain ⟨e9685, he9625, hTl9632, hll9633, hT9631⟩ := c_1 (ready_of 1 hbef rfl)
     obtain e9686 := c_2 (ready_of 2 hbef rfl)
     have k9687 := (((hN9518.blk.grown0 hg9521).grown0 hg9533).grown0 hi9678)
     refine wpo_call (vs := [.slice b cs.length e]) gf_42 (args_cons e9686 args_nil) rfl (toCallS_c _ cs _ _ (SlAt.low hs hb9683) (by omega)) ?_
     rintro _ w9692 ⟨B9688, rfl, hge9689, k9690, hg9691⟩
     have hb9693 := low0 hb9683 hg9691
     have hlB9688 := Nat.le_trans hb9683.size hge9689
     have lt_B9516_B9688 := Nat.lt_of_lt_of_le (k9687).lt hge9689
     exact wpo_nil ⟨B9623, ys9624, B9688, (low0 hi9678 hg9691), e9679, e9680, e9681, e9682, c_0, fun h => let ⟨y9694, y9695, y9696, y9697, y9698⟩ := c_1 h; ⟨y9694, y9695, y9696, y9697, (y9698).low hg9691⟩, c_2, fun _ => ⟨rfl, hlB9688, k9690, lt_B9516_B9688, (Nat.le_trans hi9678.size hge9689)⟩, c_4⟩
    refine preL_cons (fun S F w9699 hS hbef hcl hI => ?_) ?_
    ·
     obtain ⟨B9623, ys9624, B9636, hi9700, e9701, e9702, e9703, e9704, c_0, c_1, c_2, c_3, c_4⟩ := hI
     have hb9705 := low0 hb9538 hi9700
     have k9706 := (((hN9518.blk.grown0 hg9521).grown0 hg9533).grown0 hi9700)
     refine wpo_loadn (vs := [.int .i64 l.s, .int .i64 l.v]) rt_50 e9703 rfl (k9706.rangeL 0 2 rfl) rfl ?_
     exact wpo_nil ⟨B9623, ys9624, B9636, hi9700, e9701, e9702, e9703, e9704, c_0, c_1, c_2, c_3, fun _ => rfl⟩
    exact preL_nil
   ·
    intro S F w9707 hall hI
    obtain ⟨B9623, ys9624, B9636, hi9708, e9709, e9710, e9711, e9712, c_0, c_1, c_2, c_3, c_4⟩ := hI
    have hb9713 := low0 hb9538 hi9708
    obtain e9714 := c_0 (hall 0 (by decide))
    obtain ⟨e9715, he9625, hTl9632, hll9633, hT9631⟩ := c_1 (hall 1 (by decide))
    obtain e9716 := c_2 (hall 2 (by decide))
    obtain ⟨e9717, hlB9636, kb_B9636, lt_B9516_B9636, hk_B9636⟩ := c_3 (hall 3 (by decide))
    obtain e9718 := c_4 (hall 4 (by decide))
    refine wpo_call (vs := [.agg #[.int .i64 l.s, .int .i64 l.v]]) gf_27 (args_cons e9718 args_nil) rfl (toLabel_c l _) ?_
    rintro _ w9719 ⟨rfl, hg9720⟩
    have hb9721 := low0 hb9713 hg9720
    have k9722 := (kb_B9636.grown0 hg9720)
    refine wpo_call (vs := [.slice (some ⟨B9623, 0, none⟩) ys9624.length ys9624.length, .slice (some ⟨B9636, 0, none⟩) cs.length cs.length, .agg #[.int .i64 l.s, .int .i64 l.v]]) gf_41 (args_cons e9715 (args_cons e9717 (args_cons rfl args_nil))) rfl (sRunQuiet_c l _ ys9624 _ _ (TabAt.low hT9631 hg9720) hTl9632 (by omega) cs _ _ (rows_sl wide_cl k9722) (by omega)) ?_
    rintro _ w9723 ⟨rfl, hg9724⟩
    have hb9725 := low0 hb9721 hg9724
    refine wpo_assign (v := .bool (runQuiet (tabT ms) cs l)) (congrArg (fun T : List Th => Value.bool (runQuiet T cs l)) he9625) rfl ?_
    refine wpo_nil ?_
    refine thn_n ?_
    refine wpf_seq_region ?_
    refine wpo_move (v := .slice a ms.length c) e9709 rfl ?_
    refine wpo_call (vs := [.slice a ms.length c]) gf_38 (args_cons rfl args_nil) rfl (toThingS_c _ ms _ _ (TabAt.low ht hb9725) hlen9529 (by omega)) ?_
    rintro _ w9733 ⟨B9726, ys9727, rfl, he9728, hge9729, k9730, hX9731, hg9732⟩
    have hb9737 := low0 hb9725 hg9732
    have hT9734 : TabAt w9733 (some ⟨B9726, 0, none⟩) ys9727 := ⟨rows_sl wide_mth k9730, fun m hm => (hX9731 m hm).at⟩
    have hTl9735 := TabLen.of he9728 hlen9529
    have hll9736 := tabT_length he9728
    refine wpo_assign (v := .slice (some ⟨B9726, 0, none⟩) ys9727.length ys9727.length) rfl rfl ?_
    refine wpo_nil ?_
    refine wpf_seq_region ?_
    refine wpo_move (v := .slice b cs.length e) e9710 rfl ?_
    have k9738 := ((((((hN9518.blk.grown0 hg9521).grown0 hg9533).grown0 hi9708).grown0 hg9720).grown0 hg9724).grown0 hg9732)
    have k9739 := ((k9722.grown0 hg9724).grown0 hg9732)
    refine wpo_call (vs := [.slice b cs.length e]) gf_42 (args_cons rfl args_nil) rfl (toCallS_c _ cs _ _ (SlAt.low hs hb9737) (by omega)) ?_
    rintro _ w9744 ⟨B9740, rfl, hge9741, k9742, hg9743⟩
    have hb9745 := low0 hb9737 hg9743
    have hlB9740 := Nat.le_trans hb9737.size hge9741
    have lt_B9516_B9740 := Nat.lt_of_lt_of_le (k9738).lt hge9741
    have lt_B9636_B9740 := Nat.lt_of_lt_of_le (k9739).lt hge9741
    refine wpo_assign (v := .slice (some ⟨B9740, 0, none⟩) cs.length cs.length) rfl rfl ?_
    refine wpo_nil ?_
    refine wpf_seq_region ?_
    refine wpo_move (v := .slice (some ⟨B9726, 0, none⟩) ys9727.length ys9727.length) rfl rfl ?_
    refine wpo_move (v := .slice (some ⟨B9740, 0, none⟩) cs.length cs.length) rfl rfl ?_
    have k9746 := (k9738.grown0 hg9743)
    refine wpo_loadn (vs := [.int .i64 l.s, .int .i64 l.v]) rt_50 e9711 rfl (k9746.rangeL 0 2 rfl) rfl ?_
    refine wpo_call (vs := [.agg #[.int .i64 l.s, .int .i64 l.v]]) gf_27 (args_cons rfl args_nil) rfl (toLabel_c l _) ?_
    rintro _ w9747 ⟨rfl, hg9748⟩
    have hb9749 := low0 hb9745 hg9748
    have k9750 := (k9742.grown0 hg9748)
    refine wpo_call (vs := [.slice (some ⟨B9726, 0, none⟩) ys9727.length ys9727.length, .slice (some ⟨B9740, 0, none⟩) cs.length cs.length, .agg #[.int .i64 l.s, .int .i64 l.v]]) gf_43 (args_cons rfl (args_cons rfl (args_cons rfl args_nil))) rfl (RunQuiet_c l _ ys9727 _ _ (TabAt.low hT9734 (grown_trans hg9743 hg9748)) hTl9735 (by omega) cs _ _ (rows_sl wide_cl k9750) (by omega)) ?_
    rintro _ w9751 ⟨rfl, hg9752⟩
    have hb9753 := low0 hb9749 hg9752
    refine wpo_assign (v := .bool (runQuiet (tabT ms) cs l)) (congrArg (fun T : List Th => Value.bool (runQuiet T cs l)) he9728) rfl ?_
    refine wpo_nil ?_
    refine wpf_seq ?_
    refine wpf_seq_region ?_
    refine wpo_move (v := .bool (runQuiet (tabT ms) cs l)) rfl rfl ?_
    refine wpo_move (v := .bool (runQuiet (tabT ms) cs l)) rfl rfl ?_
    refine wpo_neqb (q := false) (by kernel_rfl) rfl rfl (by simp) rfl ?_
    refine wpo_nil ?_
    refine wpf_condf rfl rfl ?_
    refine wpf_skip ?_
    refine thn_n ?_
    refine wpf_seq ?_
    refine wpf_seq_region ?_
    refine wpo_move (v := .slice (some ⟨B9726, 0, none⟩) ys9727.length ys9727.length) rfl rfl ?_
    refine wpo_move (v := .slice a ms.length c) e9709 rfl ?_
    refine wpo_call (vs := [.slice a ms.length c]) gf_38 (args_cons rfl args_nil) rfl (toThingS_c _ ms _ _ (TabAt.low ht hb9753) hlen9529 (by omega)) ?_
    rintro _ w9761 ⟨B9754, ys9755, rfl, he9756, hge9757, k9758, hX9759, hg9760⟩
    have hb9765 := low0 hb9753 hg9760
    have hT9762 : TabAt w9761 (some ⟨B9754, 0, none⟩) ys9755 := ⟨rows_sl wide_mth k9758, fun m hm => (hX9759 m hm).at⟩
    have hTl9763 := TabLen.of he9756 hlen9529
    have hll9764 := tabT_length he9756
    refine wpo_call (vs := [.slice (some ⟨B9726, 0, none⟩) ys9727.length ys9727.length, .slice (some ⟨B9754, 0, none⟩) ys9755.length ys9755.length]) gf_39 (args_cons rfl (args_cons rfl args_nil)) rfl (eqThingS_c _ ys9727 ys9755 _ _ _ _ (TabAt.low hT9734 (grown_trans (grown_trans (grown_trans hg9743 hg9748) hg9752) hg9760)) hT9762 hTl9735 hTl9763 (by omega) (by omega)) ?_
    rintro _ w9766 ⟨rfl, hg9767⟩
    have hb9768 := low0 hb9765 hg9767
    refine wpo_not (b' := false) (congrArg Value.bool (decide_eq_true (he9728.trans he9756.symm))) rfl rfl ?_
    refine wpo_nil ?_
    refine wpf_condf rfl rfl ?_
    refine wpf_skip ?_
    refine thn_n ?_
    refine wpf_seq ?_
    refine wpf_seq_region ?_
    refine wpo_move (v := .slice (some ⟨B9740, 0, none⟩) cs.length cs.length) rfl rfl ?_
    refine wpo_move (v := .slice b cs.length e) e9710 rfl ?_
    have k9769 := ((((k9746.grown0 hg9748).grown0 hg9752).grown0 hg9760).grown0 hg9767)
    have k9770 := (((((k9739.grown0 hg9743).grown0 hg9748).grown0 hg9752).grown0 hg9760).grown0 hg9767)
    have k9771 := (((k9750.grown0 hg9752).grown0 hg9760).grown0 hg9767)
    refine wpo_call (vs := [.slice b cs.length e]) gf_42 (args_cons rfl args_nil) rfl (toCallS_c _ cs _ _ (SlAt.low hs hb9768) (by omega)) ?_
    rintro _ w9776 ⟨B9772, rfl, hge9773, k9774, hg9775⟩
    have hb9777 := low0 hb9768 hg9775
    have hlB9772 := Nat.le_trans hb9768.size hge9773
    have lt_B9516_B9772 := Nat.lt_of_lt_of_le (k9769).lt hge9773
    have lt_B9636_B9772 := Nat.lt_of_lt_of_le (k9770).lt hge9773
    have lt_B9740_B9772 := Nat.lt_of_lt_of_le (k9771).lt hge9773
    have k9778 := (k9771.grown0 hg9775)
    refine wpo_call (vs := [.slice (some ⟨B9740, 0, none⟩) cs.length cs.length, .slice (some ⟨B9772, 0, none⟩) cs.length cs.length]) gf_44 (args_cons rfl (args_cons rfl args_nil)) rfl (eqCallS_c _ cs _ _ (rows_sl wide_cl k9778) (by first | omega | exact Nat.le_of_ble_eq_true rfl | (simp only [List.length_nil, List.length_cons, List.length_append, List.length_replicate]; omega)) cs _ _ (rows_sl wide_cl k9774) (by first | omega | exact Nat.le_of_ble_eq_true rfl | (simp only [List.length_nil, List.length_cons, List.length_append, List.length_replicate]; omega))) ?_
    rintro _ w9779 ⟨rfl, hg9780⟩
    have hb9781 := low0 hb9777 hg9780
    refine wpo_not (b' := false) (congrArg Value.bool (decide_eq_true rfl)) rfl rfl ?_
    refine wpo_nil ?_
    refine wpf_condf rfl rfl ?_
    refine wpf_skip ?_
    refine thn_n ?_
    refine wpf_seq_region ?_
    refine wpo_assign (v := .bool true) rfl rfl ?_
    refine wpo_nil ?_
    refine wpf_ret ?_
    refine ⟨.bool true, res1 rfl rfl, ?_, hb9781⟩
    rfl

end Go.Proofs.Ytlkmdoebmklbbaa
