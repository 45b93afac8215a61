/- Walks, printed by a program of mine (gen.py) out of the functions. -/
import Derived.Test.YtlkmdoebmklbbaaI
namespace Go.Proofs.Ytlkmdoebmklbbaa
open Go.RowKit Go.Dw
set_option maxRecDepth 100000
set_option maxHeartbeats 4000000
set_option linter.unusedSimpArgs false
set_option linter.unusedVariables false
theorem gf_34 : goFn Try.prog 34 = true := by kernel_rfl
theorem gf_36 : goFn Try.prog 36 = true := by kernel_rfl
theorem gf_83 : goFn Try.prog 83 = true := by kernel_rfl
theorem gf_86 : goFn Try.prog 86 = true := by kernel_rfl
theorem ViewHigh_c (k : Int) (l : Lab) (hk : -9223372036854775808 ≤ k ∧ k ≤ 9223372036854775807) (w : World) (ms : List MTh) (a : Option Addr) (c : Nat) (ht : TabAt w a ms) (hlen : TabLen ms) (hn : ms.length ≤ 1048576) : CallsR Try.prog 32 #[.slice a ms.length c, .int .i64 k, .agg #[.int .i64 l.s, .int .i64 l.v]] w (fun v w' => v = .bool (viewHigh (tabT ms) k l) ∧ w.grownBy w' none) := by
 refine calls_of_wpf (n := 29) Try.func32 rfl Try.ntmps32 rfl ?_
 have hb0 := World.grownBy.refl w none
 refine wpf_seq_region ?_
 refine wpo_box (v := .agg #[.int .i64 l.s, .int .i64 l.v]) (cs := #[.int .i64 l.s, .int .i64 l.v]) rfl rfl rfl ?_
 intro B7412 w7413 hN7414
 have hlB7412 := hN_ge hN7414 hb0
 have hb7415 := low0 hb0 hN7414.grw
 refine wpo_assign (v := .bool false) rfl rfl ?_
 refine wpo_nil ?_
 refine wpf_seq_mid (fun f' w' => (f' 6 = .bool (((tableOk (tabT ms) && labelOk l) && inR k 1 (ms.length : Int)) && (!labelFlow ((mAt ms ((k - 1).toNat)).t.lab) l))) ∧ w7413.grownBy w' none) ?_ ?_
 ·
  rcases bcases (tableOk (tabT ms)) with h7445 | h7445
  ·
   rcases bcases (labelOk l) with h7453 | h7453
   ·
    rcases bcases (inR k 1 (ms.length : Int)) with h7464 | h7464
    ·
     have hr7465 := inR_iff.1 h7464
     obtain ⟨b7501, q7502, o7503, ha7504, ho7505, hr7506⟩ := SlAt.at (TabAt.low ht hb7415).1 (map_get (mAt_get (show (k - 1).toNat < ms.length by omega)))
     have hle7507 := TabLen.at hlen (mAt_get (show (k - 1).toNat < ms.length by omega))
     refine wpf_draw (m := 19) (vals := [(7, .slice a ms.length c), (8, .bool (tableOk (tabT ms))), (9, .bool (tableOk (tabT ms))), (10, .agg #[.int .i64 l.s, .int .i64 l.v]), (11, .bool (labelOk l)), (12, .bool (labelOk l)), (13, .bool (labelOk l)), (14, .slice a ms.length c), (15, .int .i64 k), (16, .bool (inR k 1 (ms.length : Int))), (17, .bool (inR k 1 (ms.length : Int))), (18, .bool (inR k 1 (ms.length : Int))), (19, .slice a ms.length c), (20, .int .i64 k), (21, .int .i64 (k - 1)), (22, .pointer (some ⟨b7501, o7503, none⟩)), (23, .pointer (some ⟨b7501, o7503 + 1, none⟩)), (24, .agg #[.int .i64 ((mAt ms ((k - 1).toNat)).t.lab.s), .int .i64 ((mAt ms ((k - 1).toNat)).t.lab.v)]), (25, .agg #[.int .i64 l.s, .int .i64 l.v])]) (fun w' => w7413.grownBy w' none) mixed_ (by kernel_rfl) (grown_drew _) ?_ ?_
     ·
      refine yll_cons rfl (fun w7523 hi7524 => ?_) ?_
      ·
       have hb7525 := low0 hb7415 hi7524
       refine wpo_move (v := .slice a ms.length c) rfl rfl ?_
       exact wpo_nil ⟨rfl, hi7524⟩
      refine yll_cons rfl (fun w7526 hi7527 => ?_) ?_
      ·
       have hb7528 := low0 hb7415 hi7527
       refine wpo_call (vs := [.slice a ms.length c]) gf_83 (args_cons rfl args_nil) rfl (TableOk_c  _ ms _ _ (TabAt.low ht hb7528) hlen (by omega)) ?_
       rintro _ w7529 ⟨rfl, hg7530⟩
       have hb7531 := low0 hb7528 hg7530
       exact wpo_nil ⟨rfl, (grown_trans hi7527 hg7530)⟩
      refine yll_cons rfl (fun w7532 hi7533 => ?_) ?_
      ·
       have hb7534 := low0 hb7415 hi7533
       refine wpo_move (v := .bool (tableOk (tabT ms))) rfl rfl ?_
       exact wpo_nil ⟨rfl, hi7533⟩
      refine yll_cons rfl (fun w7535 hi7536 => ?_) ?_
      ·
       have hb7537 := low0 hb7415 hi7536
       refine wpo_run rfl rfl rfl h7445 ?_
       have k7538 := (hN7414.blk.grown0 hi7536)
       refine wpo_loadn (vs := [.int .i64 l.s, .int .i64 l.v]) rt_40 rfl rfl (k7538.rangeL 0 2 rfl) rfl ?_
       exact wpo_nil ⟨rfl, hi7536⟩
      refine yll_cons rfl (fun w7539 hi7540 => ?_) ?_
      ·
       have hb7541 := low0 hb7415 hi7540
       refine wpo_run rfl rfl rfl h7445 ?_
       refine wpo_call (vs := [.agg #[.int .i64 l.s, .int .i64 l.v]]) gf_70 (args_cons rfl args_nil) rfl (LabelOk_c l _) ?_
       rintro _ w7542 ⟨rfl, hg7543⟩
       have hb7544 := low0 hb7541 hg7543
       exact wpo_nil ⟨rfl, (grown_trans hi7540 hg7543)⟩
      refine yll_cons rfl (fun w7545 hi7546 => ?_) ?_
      ·
       have hb7547 := low0 hb7415 hi7546
       refine wpo_pickt (v := .bool (labelOk l)) rfl h7445 rfl rfl ?_
       exact wpo_nil ⟨rfl, hi7546⟩
      refine yll_cons rfl (fun w7548 hi7549 => ?_) ?_
      ·
       have hb7550 := low0 hb7415 hi7549
       refine wpo_move (v := .bool (labelOk l)) rfl rfl ?_
       exact wpo_nil ⟨rfl, hi7549⟩
      refine yll_cons rfl (fun w7551 hi7552 => ?_) ?_
      ·
       have hb7553 := low0 hb7415 hi7552
       refine wpo_run rfl rfl rfl h7453 ?_
       refine wpo_move (v := .slice a ms.length c) rfl rfl ?_
       exact wpo_nil ⟨rfl, hi7552⟩
      refine yll_cons rfl (fun w7554 hi7555 => ?_) ?_
      ·
       have hb7556 := low0 hb7415 hi7555
       refine wpo_run rfl rfl rfl h7453 ?_
       refine wpo_move (v := .int .i64 k) rfl rfl ?_
       exact wpo_nil ⟨rfl, hi7555⟩
      refine yll_cons rfl (fun w7557 hi7558 => ?_) ?_
      ·
       have hb7559 := low0 hb7415 hi7558
       refine wpo_run rfl rfl rfl h7453 ?_
       refine wpo_call (vs := [.slice a ms.length c, .int .i64 k]) gf_84 (args_cons rfl (args_cons rfl args_nil)) rfl (thingExists_c k _ _ _ _) ?_
       rintro _ w7560 ⟨rfl, hg7561⟩
       have hb7562 := low0 hb7559 hg7561
       exact wpo_nil ⟨rfl, (grown_trans hi7558 hg7561)⟩
      refine yll_cons rfl (fun w7563 hi7564 => ?_) ?_
      ·
       have hb7565 := low0 hb7415 hi7564
       refine wpo_pickt (v := .bool (inR k 1 (ms.length : Int))) rfl h7453 rfl rfl ?_
       exact wpo_nil ⟨rfl, hi7564⟩
      refine yll_cons rfl (fun w7566 hi7567 => ?_) ?_
      ·
       have hb7568 := low0 hb7415 hi7567
       refine wpo_move (v := .bool (inR k 1 (ms.length : Int))) rfl rfl ?_
       exact wpo_nil ⟨rfl, hi7567⟩
      refine yll_cons rfl (fun w7569 hi7570 => ?_) ?_
      ·
       have hb7571 := low0 hb7415 hi7570
       refine wpo_run rfl rfl rfl h7464 ?_
       refine wpo_move (v := .slice a ms.length c) rfl rfl ?_
       exact wpo_nil ⟨rfl, hi7570⟩
      refine yll_cons rfl (fun w7572 hi7573 => ?_) ?_
      ·
       have hb7574 := low0 hb7415 hi7573
       refine wpo_run rfl rfl rfl h7464 ?_
       refine wpo_move (v := .int .i64 k) rfl rfl ?_
       exact wpo_nil ⟨rfl, hi7573⟩
      refine yll_cons rfl (fun w7575 hi7576 => ?_) ?_
      ·
       have hb7577 := low0 hb7415 hi7576
       refine wpo_run rfl rfl rfl h7464 ?_
       refine wpo_sub (c := k - 1) rfl rfl (by omega) (by omega) (by omega) rfl ?_
       exact wpo_nil ⟨rfl, hi7576⟩
      refine yll_cons rfl (fun w7578 hi7579 => ?_) ?_
      ·
       have hb7580 := low0 hb7415 hi7579
       refine wpo_run rfl rfl rfl h7464 ?_
       refine wpo_indexE es_54 rfl rfl ha7504 ho7505 (by omega) (by omega) rfl ?_
       exact wpo_nil ⟨rfl, hi7579⟩
      refine yll_cons rfl (fun w7581 hi7582 => ?_) ?_
      ·
       have hb7583 := low0 hb7415 hi7582
       refine wpo_run rfl rfl rfl h7464 ?_
       refine wpo_fieldAddr (o' := o7503 + 1) fo_45_1 rfl rfl rfl ?_
       exact wpo_nil ⟨rfl, hi7582⟩
      refine yll_cons rfl (fun w7584 hi7585 => ?_) ?_
      ·
       have hb7586 := low0 hb7415 hi7585
       refine wpo_run rfl rfl rfl h7464 ?_
       refine wpo_loadn (vs := [.int .i64 ((mAt ms ((k - 1).toNat)).t.lab.s), .int .i64 ((mAt ms ((k - 1).toNat)).t.lab.v)]) rt_40 rfl rfl (range_sub (range_low hr7506 hi7585) 1 2 rfl) rfl ?_
       exact wpo_nil ⟨rfl, hi7585⟩
      refine yll_cons rfl (fun w7587 hi7588 => ?_) ?_
      ·
       have hb7589 := low0 hb7415 hi7588
       refine wpo_run rfl rfl rfl h7464 ?_
       have k7590 := (hN7414.blk.grown0 hi7588)
       refine wpo_loadn (vs := [.int .i64 l.s, .int .i64 l.v]) rt_40 rfl rfl (k7590.rangeL 0 2 rfl) rfl ?_
       exact wpo_nil ⟨rfl, hi7588⟩
      exact yll_nil
     ·
      intro w7591 hi7592
      have hb7593 := low0 hb7415 hi7592
      refine wpo_run rfl rfl rfl h7464 ?_
      refine wpo_call (vs := [.agg #[.int .i64 ((mAt ms ((k - 1).toNat)).t.lab.s), .int .i64 ((mAt ms ((k - 1).toNat)).t.lab.v)], .agg #[.int .i64 l.s, .int .i64 l.v]]) gf_36 (args_cons rfl (args_cons rfl args_nil)) rfl (LabelFlow_c ((mAt ms ((k - 1).toNat)).t.lab) l _) ?_
      rintro _ w7594 ⟨rfl, hg7595⟩
      have hb7596 := low0 hb7593 hg7595
      refine wpo_run rfl rfl rfl h7464 ?_
      refine wpo_not (b' := !labelFlow ((mAt ms ((k - 1).toNat)).t.lab) l) rfl rfl rfl ?_
      refine wpo_pickt (v := .bool (!labelFlow ((mAt ms ((k - 1).toNat)).t.lab) l)) rfl h7464 rfl rfl ?_
      refine wpo_assign (v := .bool (!labelFlow ((mAt ms ((k - 1).toNat)).t.lab) l)) rfl rfl ?_
      exact wpo_nil (thn_n ⟨(congrArg Value.bool (by first | (simp only [h7445, h7453, h7464, b0, b1, b2, b3, b4, b5, b6, b7, b8, b9]; done) | simp [h7445, h7453, h7464])), (grown_trans hi7592 hg7595)⟩)
    ·
     refine wpf_draw (m := 19) (vals := [(7, .slice a ms.length c), (8, .bool (tableOk (tabT ms))), (9, .bool (tableOk (tabT ms))), (10, .agg #[.int .i64 l.s, .int .i64 l.v]), (11, .bool (labelOk l)), (12, .bool (labelOk l)), (13, .bool (labelOk l)), (14, .slice a ms.length c), (15, .int .i64 k), (16, .bool (inR k 1 (ms.length : Int))), (17, .bool (inR k 1 (ms.length : Int))), (18, .bool (inR k 1 (ms.length : Int))), (19, undef), (20, undef), (21, undef), (22, undef), (23, undef), (24, undef), (25, undef)]) (fun w' => w7413.grownBy w' none) mixed_ (by kernel_rfl) (grown_drew _) ?_ ?_
     ·
      refine yll_cons rfl (fun w7627 hi7628 => ?_) ?_
      ·
       have hb7629 := low0 hb7415 hi7628
       refine wpo_move (v := .slice a ms.length c) rfl rfl ?_
       exact wpo_nil ⟨rfl, hi7628⟩
      refine yll_cons rfl (fun w7630 hi7631 => ?_) ?_
      ·
       have hb7632 := low0 hb7415 hi7631
       refine wpo_call (vs := [.slice a ms.length c]) gf_83 (args_cons rfl args_nil) rfl (TableOk_c  _ ms _ _ (TabAt.low ht hb7632) hlen (by omega)) ?_
       rintro _ w7633 ⟨rfl, hg7634⟩
       have hb7635 := low0 hb7632 hg7634
       exact wpo_nil ⟨rfl, (grown_trans hi7631 hg7634)⟩
      refine yll_cons rfl (fun w7636 hi7637 => ?_) ?_
      ·
       have hb7638 := low0 hb7415 hi7637
       refine wpo_move (v := .bool (tableOk (tabT ms))) rfl rfl ?_
       exact wpo_nil ⟨rfl, hi7637⟩
      refine yll_cons rfl (fun w7639 hi7640 => ?_) ?_
      ·
       have hb7641 := low0 hb7415 hi7640
       refine wpo_run rfl rfl rfl h7445 ?_
       have k7642 := (hN7414.blk.grown0 hi7640)
       refine wpo_loadn (vs := [.int .i64 l.s, .int .i64 l.v]) rt_40 rfl rfl (k7642.rangeL 0 2 rfl) rfl ?_
       exact wpo_nil ⟨rfl, hi7640⟩
      refine yll_cons rfl (fun w7643 hi7644 => ?_) ?_
      ·
       have hb7645 := low0 hb7415 hi7644
       refine wpo_run rfl rfl rfl h7445 ?_
       refine wpo_call (vs := [.agg #[.int .i64 l.s, .int .i64 l.v]]) gf_70 (args_cons rfl args_nil) rfl (LabelOk_c l _) ?_
       rintro _ w7646 ⟨rfl, hg7647⟩
       have hb7648 := low0 hb7645 hg7647
       exact wpo_nil ⟨rfl, (grown_trans hi7644 hg7647)⟩
      refine yll_cons rfl (fun w7649 hi7650 => ?_) ?_
      ·
       have hb7651 := low0 hb7415 hi7650
       refine wpo_pickt (v := .bool (labelOk l)) rfl h7445 rfl rfl ?_
       exact wpo_nil ⟨rfl, hi7650⟩
      refine yll_cons rfl (fun w7652 hi7653 => ?_) ?_
      ·
       have hb7654 := low0 hb7415 hi7653
       refine wpo_move (v := .bool (labelOk l)) rfl rfl ?_
       exact wpo_nil ⟨rfl, hi7653⟩
      refine yll_cons rfl (fun w7655 hi7656 => ?_) ?_
      ·
       have hb7657 := low0 hb7415 hi7656
       refine wpo_run rfl rfl rfl h7453 ?_
       refine wpo_move (v := .slice a ms.length c) rfl rfl ?_
       exact wpo_nil ⟨rfl, hi7656⟩
      refine yll_cons rfl (fun w7658 hi7659 => ?_) ?_
      ·
       have hb7660 := low0 hb7415 hi7659
       refine wpo_run rfl rfl rfl h7453 ?_
       refine wpo_move (v := .int .i64 k) rfl rfl ?_
       exact wpo_nil ⟨rfl, hi7659⟩
      refine yll_cons rfl (fun w7661 hi7662 => ?_) ?_
      ·
       have hb7663 := low0 hb7415 hi7662
       refine wpo_run rfl rfl rfl h7453 ?_
       refine wpo_call (vs := [.slice a ms.length c, .int .i64 k]) gf_84 (args_cons rfl (args_cons rfl args_nil)) rfl (thingExists_c k _ _ _ _) ?_
       rintro _ w7664 ⟨rfl, hg7665⟩
       have hb7666 := low0 hb7663 hg7665
       exact wpo_nil ⟨rfl, (grown_trans hi7662 hg7665)⟩
      refine yll_cons rfl (fun w7667 hi7668 => ?_) ?_
      ·
       have hb7669 := low0 hb7415 hi7668
       refine wpo_pickt (v := .bool (inR k 1 (ms.length : Int))) rfl h7453 rfl rfl ?_
       exact wpo_nil ⟨rfl, hi7668⟩
      refine yll_cons rfl (fun w7670 hi7671 => ?_) ?_
      ·
       have hb7672 := low0 hb7415 hi7671
       refine wpo_move (v := .bool (inR k 1 (ms.length : Int))) rfl rfl ?_
       exact wpo_nil ⟨rfl, hi7671⟩
      refine yll_cons rfl (fun w7673 hi7674 => ?_) ?_
      ·
       have hb7675 := low0 hb7415 hi7674
       refine wpo_pass rfl rfl rfl h7464 rfl ?_
       exact wpo_nil ⟨rfl, hi7674⟩
      refine yll_cons rfl (fun w7676 hi7677 => ?_) ?_
      ·
       have hb7678 := low0 hb7415 hi7677
       refine wpo_pass rfl rfl rfl h7464 rfl ?_
       exact wpo_nil ⟨rfl, hi7677⟩
      refine yll_cons rfl (fun w7679 hi7680 => ?_) ?_
      ·
       have hb7681 := low0 hb7415 hi7680
       refine wpo_pass rfl rfl rfl h7464 rfl ?_
       exact wpo_nil ⟨rfl, hi7680⟩
      refine yll_cons rfl (fun w7682 hi7683 => ?_) ?_
      ·
       have hb7684 := low0 hb7415 hi7683
       refine wpo_pass rfl rfl rfl h7464 rfl ?_
       exact wpo_nil ⟨rfl, hi7683⟩
      refine yll_cons rfl (fun w7685 hi7686 => ?_) ?_
      ·
       have hb7687 := low0 hb7415 hi7686
       refine wpo_pass rfl rfl rfl h7464 rfl ?_
       exact wpo_nil ⟨rfl, hi7686⟩
      refine yll_cons rfl (fun w7688 hi7689 => ?_) ?_
      ·
       have hb7690 := low0 hb7415 hi7689
       refine wpo_pass rfl rfl rfl h7464 rfl ?_
       exact wpo_nil ⟨rfl, hi7689⟩
      refine yll_cons rfl (fun w7691 hi7692 => ?_) ?_
      ·
       have hb7693 := low0 hb7415 hi7692
       refine wpo_pass rfl rfl rfl h7464 rfl ?_
       exact wpo_nil ⟨rfl, hi7692⟩
      exact yll_nil
     ·
      intro w7694 hi7695
      have hb7696 := low0 hb7415 hi7695
      refine wpo_pass rfl rfl rfl h7464 rfl ?_
      refine wpo_pass rfl rfl rfl h7464 rfl ?_
      refine wpo_pickf (v := .bool false) rfl h7464 rfl rfl ?_
      refine wpo_assign (v := .bool false) rfl rfl ?_
      exact wpo_nil (thn_n ⟨(congrArg Value.bool (by first | (simp only [h7445, h7453, h7464, b0, b1, b2, b3, b4, b5, b6, b7, b8, b9]; done) | simp [h7445, h7453, h7464])), hi7695⟩)
   ·
    refine wpf_draw (m := 19) (vals := [(7, .slice a ms.length c), (8, .bool (tableOk (tabT ms))), (9, .bool (tableOk (tabT ms))), (10, .agg #[.int .i64 l.s, .int .i64 l.v]), (11, .bool (labelOk l)), (12, .bool (labelOk l)), (13, .bool (labelOk l)), (14, undef), (15, undef), (16, undef), (17, .bool false), (18, .bool false), (19, undef), (20, undef), (21, undef), (22, undef), (23, undef), (24, undef), (25, undef)]) (fun w' => w7413.grownBy w' none) mixed_ (by kernel_rfl) (grown_drew _) ?_ ?_
    ·
     refine yll_cons rfl (fun w7718 hi7719 => ?_) ?_
     ·
      have hb7720 := low0 hb7415 hi7719
      refine wpo_move (v := .slice a ms.length c) rfl rfl ?_
      exact wpo_nil ⟨rfl, hi7719⟩
     refine yll_cons rfl (fun w7721 hi7722 => ?_) ?_
     ·
      have hb7723 := low0 hb7415 hi7722
      refine wpo_call (vs := [.slice a ms.length c]) gf_83 (args_cons rfl args_nil) rfl (TableOk_c  _ ms _ _ (TabAt.low ht hb7723) hlen (by omega)) ?_
      rintro _ w7724 ⟨rfl, hg7725⟩
      have hb7726 := low0 hb7723 hg7725
      exact wpo_nil ⟨rfl, (grown_trans hi7722 hg7725)⟩
     refine yll_cons rfl (fun w7727 hi7728 => ?_) ?_
     ·
      have hb7729 := low0 hb7415 hi7728
      refine wpo_move (v := .bool (tableOk (tabT ms))) rfl rfl ?_
      exact wpo_nil ⟨rfl, hi7728⟩
     refine yll_cons rfl (fun w7730 hi7731 => ?_) ?_
     ·
      have hb7732 := low0 hb7415 hi7731
      refine wpo_run rfl rfl rfl h7445 ?_
      have k7733 := (hN7414.blk.grown0 hi7731)
      refine wpo_loadn (vs := [.int .i64 l.s, .int .i64 l.v]) rt_40 rfl rfl (k7733.rangeL 0 2 rfl) rfl ?_
      exact wpo_nil ⟨rfl, hi7731⟩
     refine yll_cons rfl (fun w7734 hi7735 => ?_) ?_
     ·
      have hb7736 := low0 hb7415 hi7735
      refine wpo_run rfl rfl rfl h7445 ?_
      refine wpo_call (vs := [.agg #[.int .i64 l.s, .int .i64 l.v]]) gf_70 (args_cons rfl args_nil) rfl (LabelOk_c l _) ?_
      rintro _ w7737 ⟨rfl, hg7738⟩
      have hb7739 := low0 hb7736 hg7738
      exact wpo_nil ⟨rfl, (grown_trans hi7735 hg7738)⟩
     refine yll_cons rfl (fun w7740 hi7741 => ?_) ?_
     ·
      have hb7742 := low0 hb7415 hi7741
      refine wpo_pickt (v := .bool (labelOk l)) rfl h7445 rfl rfl ?_
      exact wpo_nil ⟨rfl, hi7741⟩
     refine yll_cons rfl (fun w7743 hi7744 => ?_) ?_
     ·
      have hb7745 := low0 hb7415 hi7744
      refine wpo_move (v := .bool (labelOk l)) rfl rfl ?_
      exact wpo_nil ⟨rfl, hi7744⟩
     refine yll_cons rfl (fun w7746 hi7747 => ?_) ?_
     ·
      have hb7748 := low0 hb7415 hi7747
      refine wpo_pass rfl rfl rfl h7453 rfl ?_
      exact wpo_nil ⟨rfl, hi7747⟩
     refine yll_cons rfl (fun w7749 hi7750 => ?_) ?_
     ·
      have hb7751 := low0 hb7415 hi7750
      refine wpo_pass rfl rfl rfl h7453 rfl ?_
      exact wpo_nil ⟨rfl, hi7750⟩
     refine yll_cons rfl (fun w7752 hi7753 => ?_) ?_
     ·
      have hb7754 := low0 hb7415 hi7753
      refine wpo_pass rfl rfl rfl h7453 rfl ?_
      exact wpo_nil ⟨rfl, hi7753⟩
     refine yll_cons rfl (fun w7755 hi7756 => ?_) ?_
     ·
      have hb7757 := low0 hb7415 hi7756
      refine wpo_pickf (v := .bool false) rfl h7453 rfl rfl ?_
      exact wpo_nil ⟨rfl, hi7756⟩
     refine yll_cons rfl (fun w7758 hi7759 => ?_) ?_
     ·
      have hb7760 := low0 hb7415 hi7759
      refine wpo_move (v := .bool false) rfl rfl ?_
      exact wpo_nil ⟨rfl, hi7759⟩
     refine yll_cons rfl (fun w7761 hi7762 => ?_) ?_
     ·
      have hb7763 := low0 hb7415 hi7762
      refine wpo_pass rfl rfl rfl rfl rfl ?_
      exact wpo_nil ⟨rfl, hi7762⟩
     refine yll_cons rfl (fun w7764 hi7765 => ?_) ?_
     ·
      have hb7766 := low0 hb7415 hi7765
      refine wpo_pass rfl rfl rfl rfl rfl ?_
      exact wpo_nil ⟨rfl, hi7765⟩
     refine yll_cons rfl (fun w7767 hi7768 => ?_) ?_
     ·
      have hb7769 := low0 hb7415 hi7768
      refine wpo_pass rfl rfl rfl rfl rfl ?_
      exact wpo_nil ⟨rfl, hi7768⟩
     refine yll_cons rfl (fun w7770 hi7771 => ?_) ?_
     ·
      have hb7772 := low0 hb7415 hi7771
      refine wpo_pass rfl rfl rfl rfl rfl ?_
      exact wpo_nil ⟨rfl, hi7771⟩
     refine yll_cons rfl (fun w7773 hi7774 => ?_) ?_
     ·
      have hb7775 := low0 hb7415 hi7774
      refine wpo_pass rfl rfl rfl rfl rfl ?_
      exact wpo_nil ⟨rfl, hi7774⟩
     refine yll_cons rfl (fun w7776 hi7777 => ?_) ?_
     ·
      have hb7778 := low0 hb7415 hi7777
      refine wpo_pass rfl rfl rfl rfl rfl ?_
      exact wpo_nil ⟨rfl, hi7777⟩
     refine yll_cons rfl (fun w7779 hi7780 => ?_) ?_
     ·
      have hb7781 := low0 hb7415 hi7780
      refine wpo_pass rfl rfl rfl rfl rfl ?_
      exact wpo_nil ⟨rfl, hi7780⟩
     exact yll_nil
    ·
     intro w7782 hi7783
     have hb7784 := low0 hb7415 hi7783
     refine wpo_pass rfl rfl rfl rfl rfl ?_
     refine wpo_pass rfl rfl rfl rfl rfl ?_
     refine wpo_pickf (v := .bool false) rfl rfl rfl rfl ?_
     refine wpo_assign (v := .bool false) rfl rfl ?_
     exact wpo_nil (thn_n ⟨(congrArg Value.bool (by first | (simp only [h7445, h7453, b0, b1, b2, b3, b4, b5, b6, b7, b8, b9]; done) | simp [h7445, h7453])), hi7783⟩)
  ·
   refine wpf_draw (m := 19) (vals := [(7, .slice a ms.length c), (8, .bool (tableOk (tabT ms))), (9, .bool (tableOk (tabT ms))), (10, undef), (11, undef), (12, .bool false), (13, .bool false), (14, undef), (15, undef), (16, undef), (17, .bool false), (18, .bool false), (19, undef), (20, undef), (21, undef), (22, undef), (23, undef), (24, undef), (25, undef)]) (fun w' => w7413.grownBy w' none) mixed_ (by kernel_rfl) (grown_drew _) ?_ ?_
   ·
    refine yll_cons rfl (fun w7794 hi7795 => ?_) ?_
    ·
     have hb7796 := low0 hb7415 hi7795
     refine wpo_move (v := .slice a ms.length c) rfl rfl ?_
     exact wpo_nil ⟨rfl, hi7795⟩
    refine yll_cons rfl (fun w7797 hi7798 => ?_) ?_
    ·
     have hb7799 := low0 hb7415 hi7798
     refine wpo_call (vs := [.slice a ms.length c]) gf_83 (args_cons rfl args_nil) rfl (TableOk_c  _ ms _ _ (TabAt.low ht hb7799) hlen (by omega)) ?_
     rintro _ w7800 ⟨rfl, hg7801⟩
     have hb7802 := low0 hb7799 hg7801
     exact wpo_nil ⟨rfl, (grown_trans hi7798 hg7801)⟩
    refine yll_cons rfl (fun w7803 hi7804 => ?_) ?_
    ·
     have hb7805 := low0 hb7415 hi7804
     refine wpo_move (v := .bool (tableOk (tabT ms))) rfl rfl ?_
     exact wpo_nil ⟨rfl, hi7804⟩
    refine yll_cons rfl (fun w7806 hi7807 => ?_) ?_
    ·
     have hb7808 := low0 hb7415 hi7807
     refine wpo_pass rfl rfl rfl h7445 rfl ?_
     exact wpo_nil ⟨rfl, hi7807⟩
    refine yll_cons rfl (fun w7809 hi7810 => ?_) ?_
    ·
     have hb7811 := low0 hb7415 hi7810
     refine wpo_pass rfl rfl rfl h7445 rfl ?_
     exact wpo_nil ⟨rfl, hi7810⟩
    refine yll_cons rfl (fun w7812 hi7813 => ?_) ?_
    ·
     have hb7814 := low0 hb7415 hi7813
     refine wpo_pickf (v := .bool false) rfl h7445 rfl rfl ?_
     exact wpo_nil ⟨rfl, hi7813⟩
    refine yll_cons rfl (fun w7815 hi7816 => ?_) ?_
    ·
     have hb7817 := low0 hb7415 hi7816
     refine wpo_move (v := .bool false) rfl rfl ?_
     exact wpo_nil ⟨rfl, hi7816⟩
    refine yll_cons rfl (fun w7818 hi7819 => ?_) ?_
    ·
     have hb7820 := low0 hb7415 hi7819
     refine wpo_pass rfl rfl rfl rfl rfl ?_
     exact wpo_nil ⟨rfl, hi7819⟩
    refine yll_cons rfl (fun w7821 hi7822 => ?_) ?_
    ·
     have hb7823 := low0 hb7415 hi7822
     refine wpo_pass rfl rfl rfl rfl rfl ?_
     exact wpo_nil ⟨rfl, hi7822⟩
    refine yll_cons rfl (fun w7824 hi7825 => ?_) ?_
    ·
     have hb7826 := low0 hb7415 hi7825
     refine wpo_pass rfl rfl rfl rfl rfl ?_
     exact wpo_nil ⟨rfl, hi7825⟩
    refine yll_cons rfl (fun w7827 hi7828 => ?_) ?_
    ·
     have hb7829 := low0 hb7415 hi7828
     refine wpo_pickf (v := .bool false) rfl rfl rfl rfl ?_
     exact wpo_nil ⟨rfl, hi7828⟩
    refine yll_cons rfl (fun w7830 hi7831 => ?_) ?_
    ·
     have hb7832 := low0 hb7415 hi7831
     refine wpo_move (v := .bool false) rfl rfl ?_
     exact wpo_nil ⟨rfl, hi7831⟩
    refine yll_cons rfl (fun w7833 hi7834 => ?_) ?_
    ·
     have hb7835 := low0 hb7415 hi7834
     refine wpo_pass rfl rfl rfl rfl rfl ?_
     exact wpo_nil ⟨rfl, hi7834⟩
    refine yll_cons rfl (fun w7836 hi7837 => ?_) ?_
    ·
     have hb7838 := low0 hb7415 hi7837
     refine wpo_pass rfl rfl rfl rfl rfl ?_
     exact wpo_nil ⟨rfl, hi7837⟩
    refine yll_cons rfl (fun w7839 hi7840 => ?_) ?_
    ·
     have hb7841 := low0 hb7415 hi7840
     refine wpo_pass rfl rfl rfl rfl rfl ?_
     exact wpo_nil ⟨rfl, hi7840⟩
    refine yll_cons rfl (fun w7842 hi7843 => ?_) ?_
    ·
     have hb7844 := low0 hb7415 hi7843
     refine wpo_pass rfl rfl rfl rfl rfl ?_
     exact wpo_nil ⟨rfl, hi7843⟩
    refine yll_cons rfl (fun w7845 hi7846 => ?_) ?_
    ·
     have hb7847 := low0 hb7415 hi7846
     refine wpo_pass rfl rfl rfl rfl rfl ?_
     exact wpo_nil ⟨rfl, hi7846⟩
    refine yll_cons rfl (fun w7848 hi7849 => ?_) ?_
    ·
     have hb7850 := low0 hb7415 hi7849
     refine wpo_pass rfl rfl rfl rfl rfl ?_
     exact wpo_nil ⟨rfl, hi7849⟩
    refine yll_cons rfl (fun w7851 hi7852 => ?_) ?_
    ·
     have hb7853 := low0 hb7415 hi7852
     refine wpo_pass rfl rfl rfl rfl rfl ?_
     exact wpo_nil ⟨rfl, hi7852⟩
    exact yll_nil
   ·
    intro w7854 hi7855
    have hb7856 := low0 hb7415 hi7855
    refine wpo_pass rfl rfl rfl rfl rfl ?_
    refine wpo_pass rfl rfl rfl rfl rfl ?_
    refine wpo_pickf (v := .bool false) rfl rfl rfl rfl ?_
    refine wpo_assign (v := .bool false) rfl rfl ?_
    exact wpo_nil (thn_n ⟨(congrArg Value.bool (by first | (simp only [h7445, b0, b1, b2, b3, b4, b5, b6, b7, b8, b9]; done) | simp [h7445])), hi7855⟩)
 ·
  rintro f7857 w7858 ⟨e7859, hg7860⟩
  have hb7861 := low0 hb7415 hg7860
  refine wpf_ret ?_
  refine ⟨.bool (((tableOk (tabT ms) && labelOk l) && inR k 1 (ms.length : Int)) && (!labelFlow ((mAt ms ((k - 1).toNat)).t.lab) l)), res1 rfl e7859, ?_, hb7861⟩
  exact congrArg Value.bool viewHigh_i

theorem sViewHigh_c (k : Int) (l : Lab) (hk : -9223372036854775808 ≤ k ∧ k ≤ 9223372036854775807) (w : World) (ms : List MTh) (a : Option Addr) (c : Nat) (ht : TabAt w a ms) (hlen : TabLen ms) (hn : ms.length ≤ 1048576) : CallsR Try.prog 33 #[.slice a ms.length c, .int .i64 k, .agg #[.int .i64 l.s, .int .i64 l.v]] w (fun v w' => v = .bool (viewHigh (tabT ms) k l) ∧ w.grownBy w' none) := by
 refine calls_of_wpf (n := 30) Try.func33 rfl Try.ntmps33 rfl ?_
 have hb0 := World.grownBy.refl w none
 refine wpf_seq_region ?_
 refine wpo_box (v := .agg #[.int .i64 l.s, .int .i64 l.v]) (cs := #[.int .i64 l.s, .int .i64 l.v]) rfl rfl rfl ?_
 intro B7862 w7863 hN7864
 have hlB7862 := hN_ge hN7864 hb0
 have hb7865 := low0 hb0 hN7864.grw
 refine wpo_assign (v := .bool false) rfl rfl ?_
 refine wpo_nil ?_
 refine wpf_seq_mid (fun f' w' => (f' 6 = .bool (((tableOk (tabT ms) && labelOk l) && inR k 1 (ms.length : Int)) && (!flow ((mAt ms ((k - 1).toNat)).t.lab) l))) ∧ w7863.grownBy w' none) ?_ ?_
 ·
  rcases bcases (tableOk (tabT ms)) with h7895 | h7895
  ·
   rcases bcases (labelOk l) with h7903 | h7903
   ·
    rcases bcases (inR k 1 (ms.length : Int)) with h7914 | h7914
    ·
     have hr7915 := inR_iff.1 h7914
     obtain ⟨b7951, q7952, o7953, ha7954, ho7955, hr7956⟩ := SlAt.at (TabAt.low ht hb7865).1 (map_get (mAt_get (show (k - 1).toNat < ms.length by omega)))
     have hle7957 := TabLen.at hlen (mAt_get (show (k - 1).toNat < ms.length by omega))
     refine wpf_draw (m := 20) (vals := [(7, .slice a ms.length c), (8, .bool (tableOk (tabT ms))), (9, .bool (tableOk (tabT ms))), (10, .agg #[.int .i64 l.s, .int .i64 l.v]), (11, .bool (labelOk l)), (12, .bool (labelOk l)), (13, .bool (labelOk l)), (14, .int .i64 k), (15, .slice a ms.length c), (16, .int .i64 (ms.length : Int)), (17, .bool (inR k 1 (ms.length : Int))), (18, .bool (inR k 1 (ms.length : Int))), (19, .bool (inR k 1 (ms.length : Int))), (20, .slice a ms.length c), (21, .int .i64 k), (22, .int .i64 (k - 1)), (23, .pointer (some ⟨b7951, o7953, none⟩)), (24, .pointer (some ⟨b7951, o7953 + 1, none⟩)), (25, .agg #[.int .i64 ((mAt ms ((k - 1).toNat)).t.lab.s), .int .i64 ((mAt ms ((k - 1).toNat)).t.lab.v)]), (26, .agg #[.int .i64 l.s, .int .i64 l.v])]) (fun w' => w7863.grownBy w' none) mixed_ (by kernel_rfl) (grown_drew _) ?_ ?_
     ·
      refine yll_cons rfl (fun w7973 hi7974 => ?_) ?_
      ·
       have hb7975 := low0 hb7865 hi7974
       refine wpo_move (v := .slice a ms.length c) rfl rfl ?_
       exact wpo_nil ⟨rfl, hi7974⟩
      refine yll_cons rfl (fun w7976 hi7977 => ?_) ?_
      ·
       have hb7978 := low0 hb7865 hi7977
       refine wpo_call (vs := [.slice a ms.length c]) gf_34 (args_cons rfl args_nil) rfl (sTableOk_c  _ ms _ _ (TabAt.low ht hb7978) hlen (by omega)) ?_
       rintro _ w7979 ⟨rfl, hg7980⟩
       have hb7981 := low0 hb7978 hg7980
       exact wpo_nil ⟨rfl, (grown_trans hi7977 hg7980)⟩
      refine yll_cons rfl (fun w7982 hi7983 => ?_) ?_
      ·
       have hb7984 := low0 hb7865 hi7983
       refine wpo_move (v := .bool (tableOk (tabT ms))) rfl rfl ?_
       exact wpo_nil ⟨rfl, hi7983⟩
      refine yll_cons rfl (fun w7985 hi7986 => ?_) ?_
      ·
       have hb7987 := low0 hb7865 hi7986
       refine wpo_run rfl rfl rfl h7895 ?_
       have k7988 := (hN7864.blk.grown0 hi7986)
       refine wpo_loadn (vs := [.int .i64 l.s, .int .i64 l.v]) rt_40 rfl rfl (k7988.rangeL 0 2 rfl) rfl ?_
       exact wpo_nil ⟨rfl, hi7986⟩
      refine yll_cons rfl (fun w7989 hi7990 => ?_) ?_
      ·
       have hb7991 := low0 hb7865 hi7990
       refine wpo_run rfl rfl rfl h7895 ?_
       refine wpo_call (vs := [.agg #[.int .i64 l.s, .int .i64 l.v]]) gf_35 (args_cons rfl args_nil) rfl (sLabelOk_c l _) ?_
       rintro _ w7992 ⟨rfl, hg7993⟩
       have hb7994 := low0 hb7991 hg7993
       exact wpo_nil ⟨rfl, (grown_trans hi7990 hg7993)⟩
      refine yll_cons rfl (fun w7995 hi7996 => ?_) ?_
      ·
       have hb7997 := low0 hb7865 hi7996
       refine wpo_pickt (v := .bool (labelOk l)) rfl h7895 rfl rfl ?_
       exact wpo_nil ⟨rfl, hi7996⟩
      refine yll_cons rfl (fun w7998 hi7999 => ?_) ?_
      ·
       have hb8000 := low0 hb7865 hi7999
       refine wpo_move (v := .bool (labelOk l)) rfl rfl ?_
       exact wpo_nil ⟨rfl, hi7999⟩
      refine yll_cons rfl (fun w8001 hi8002 => ?_) ?_
      ·
       have hb8003 := low0 hb7865 hi8002
       refine wpo_run rfl rfl rfl h7903 ?_
       refine wpo_move (v := .int .i64 k) rfl rfl ?_
       exact wpo_nil ⟨rfl, hi8002⟩
      refine yll_cons rfl (fun w8004 hi8005 => ?_) ?_
      ·
       have hb8006 := low0 hb7865 hi8005
       refine wpo_run rfl rfl rfl h7903 ?_
       refine wpo_move (v := .slice a ms.length c) rfl rfl ?_
       exact wpo_nil ⟨rfl, hi8005⟩
      refine yll_cons rfl (fun w8007 hi8008 => ?_) ?_
      ·
       have hb8009 := low0 hb7865 hi8008
       refine wpo_run rfl rfl rfl h7903 ?_
       refine wpo_len (by kernel_rfl) rfl rfl ?_
       exact wpo_nil ⟨rfl, hi8008⟩
      refine yll_cons rfl (fun w8010 hi8011 => ?_) ?_
      ·
       have hb8012 := low0 hb7865 hi8011
       refine wpo_run rfl rfl rfl h7903 ?_
       refine wpo_call (vs := [.int .i64 k, .int .i64 1, .int .i64 (ms.length : Int)]) gf_85 (args_cons rfl (args_cons rfl (args_cons rfl args_nil))) rfl (l6In_c k 1 (ms.length : Int) _) ?_
       rintro _ w8013 ⟨rfl, hg8014⟩
       have hb8015 := low0 hb8012 hg8014
       exact wpo_nil ⟨rfl, (grown_trans hi8011 hg8014)⟩
      refine yll_cons rfl (fun w8016 hi8017 => ?_) ?_
      ·
       have hb8018 := low0 hb7865 hi8017
       refine wpo_pickt (v := .bool (inR k 1 (ms.length : Int))) rfl h7903 rfl rfl ?_
       exact wpo_nil ⟨rfl, hi8017⟩
      refine yll_cons rfl (fun w8019 hi8020 => ?_) ?_
      ·
       have hb8021 := low0 hb7865 hi8020
       refine wpo_move (v := .bool (inR k 1 (ms.length : Int))) rfl rfl ?_
       exact wpo_nil ⟨rfl, hi8020⟩
      refine yll_cons rfl (fun w8022 hi8023 => ?_) ?_
      ·
       have hb8024 := low0 hb7865 hi8023
       refine wpo_run rfl rfl rfl h7914 ?_
       refine wpo_move (v := .slice a ms.length c) rfl rfl ?_
       exact wpo_nil ⟨rfl, hi8023⟩
      refine yll_cons rfl (fun w8025 hi8026 => ?_) ?_
      ·
       have hb8027 := low0 hb7865 hi8026
       refine wpo_run rfl rfl rfl h7914 ?_
       refine wpo_move (v := .int .i64 k) rfl rfl ?_
       exact wpo_nil ⟨rfl, hi8026⟩
      refine yll_cons rfl (fun w8028 hi8029 => ?_) ?_
      ·
       have hb8030 := low0 hb7865 hi8029
       refine wpo_run rfl rfl rfl h7914 ?_
       refine wpo_sub (c := k - 1) rfl rfl (by omega) (by omega) (by omega) rfl ?_
       exact wpo_nil ⟨rfl, hi8029⟩
      refine yll_cons rfl (fun w8031 hi8032 => ?_) ?_
      ·
       have hb8033 := low0 hb7865 hi8032
       refine wpo_run rfl rfl rfl h7914 ?_
       refine wpo_indexE es_54 rfl rfl ha7954 ho7955 (by omega) (by omega) rfl ?_
       exact wpo_nil ⟨rfl, hi8032⟩
      refine yll_cons rfl (fun w8034 hi8035 => ?_) ?_
      ·
       have hb8036 := low0 hb7865 hi8035
       refine wpo_run rfl rfl rfl h7914 ?_
       refine wpo_fieldAddr (o' := o7953 + 1) fo_45_1 rfl rfl rfl ?_
       exact wpo_nil ⟨rfl, hi8035⟩
      refine yll_cons rfl (fun w8037 hi8038 => ?_) ?_
      ·
       have hb8039 := low0 hb7865 hi8038
       refine wpo_run rfl rfl rfl h7914 ?_
       refine wpo_loadn (vs := [.int .i64 ((mAt ms ((k - 1).toNat)).t.lab.s), .int .i64 ((mAt ms ((k - 1).toNat)).t.lab.v)]) rt_40 rfl rfl (range_sub (range_low hr7956 hi8038) 1 2 rfl) rfl ?_
       exact wpo_nil ⟨rfl, hi8038⟩
      refine yll_cons rfl (fun w8040 hi8041 => ?_) ?_
      ·
       have hb8042 := low0 hb7865 hi8041
       refine wpo_run rfl rfl rfl h7914 ?_
       have k8043 := (hN7864.blk.grown0 hi8041)
       refine wpo_loadn (vs := [.int .i64 l.s, .int .i64 l.v]) rt_40 rfl rfl (k8043.rangeL 0 2 rfl) rfl ?_
       exact wpo_nil ⟨rfl, hi8041⟩
      exact yll_nil
     ·
      intro w8044 hi8045
      have hb8046 := low0 hb7865 hi8045
      refine wpo_run rfl rfl rfl h7914 ?_
      have hl8047 : labelOk ((mAt ms ((k - 1).toNat)).t.lab) = true := tab_lab h7895 (show ((k - 1).toNat) < ms.length by omega)
      refine wpo_call (vs := [.agg #[.int .i64 ((mAt ms ((k - 1).toNat)).t.lab.s), .int .i64 ((mAt ms ((k - 1).toNat)).t.lab.v)], .agg #[.int .i64 l.s, .int .i64 l.v]]) gf_86 (args_cons rfl (args_cons rfl args_nil)) rfl (l1Flow_c ((mAt ms ((k - 1).toNat)).t.lab) l hl8047 h7903 _) ?_
      rintro _ w8048 ⟨rfl, hg8049⟩
      have hb8050 := low0 hb8046 hg8049
      refine wpo_run rfl rfl rfl h7914 ?_
      refine wpo_not (b' := !flow ((mAt ms ((k - 1).toNat)).t.lab) l) rfl rfl rfl ?_
      refine wpo_pickt (v := .bool (!flow ((mAt ms ((k - 1).toNat)).t.lab) l)) rfl h7914 rfl rfl ?_
      refine wpo_assign (v := .bool (!flow ((mAt ms ((k - 1).toNat)).t.lab) l)) rfl rfl ?_
      exact wpo_nil (thn_n ⟨(congrArg Value.bool (by first | (simp only [h7895, h7903, h7914, hl8047, b0, b1, b2, b3, b4, b5, b6, b7, b8, b9]; done) | simp [h7895, h7903, h7914, hl8047])), (grown_trans hi8045 hg8049)⟩)
    ·
     refine wpf_draw (m := 20) (vals := [(7, .slice a ms.length c), (8, .bool (tableOk (tabT ms))), (9, .bool (tableOk (tabT ms))), (10, .agg #[.int .i64 l.s, .int .i64 l.v]), (11, .bool (labelOk l)), (12, .bool (labelOk l)), (13, .bool (labelOk l)), (14, .int .i64 k), (15, .slice a ms.length c), (16, .int .i64 (ms.length : Int)), (17, .bool (inR k 1 (ms.length : Int))), (18, .bool (inR k 1 (ms.length : Int))), (19, .bool (inR k 1 (ms.length : Int))), (20, undef), (21, undef), (22, undef), (23, undef), (24, undef), (25, undef), (26, undef)]) (fun w' => w7863.grownBy w' none) mixed_ (by kernel_rfl) (grown_drew _) ?_ ?_
     ·
      refine yll_cons rfl (fun w8081 hi8082 => ?_) ?_
      ·
       have hb8083 := low0 hb7865 hi8082
       refine wpo_move (v := .slice a ms.length c) rfl rfl ?_
       exact wpo_nil ⟨rfl, hi8082⟩
      refine yll_cons rfl (fun w8084 hi8085 => ?_) ?_
      ·
       have hb8086 := low0 hb7865 hi8085
       refine wpo_call (vs := [.slice a ms.length c]) gf_34 (args_cons rfl args_nil) rfl (sTableOk_c  _ ms _ _ (TabAt.low ht hb8086) hlen (by omega)) ?_
       rintro _ w8087 ⟨rfl, hg8088⟩
       have hb8089 := low0 hb8086 hg8088
       exact wpo_nil ⟨rfl, (grown_trans hi8085 hg8088)⟩
      refine yll_cons rfl (fun w8090 hi8091 => ?_) ?_
      ·
       have hb8092 := low0 hb7865 hi8091
       refine wpo_move (v := .bool (tableOk (tabT ms))) rfl rfl ?_
       exact wpo_nil ⟨rfl, hi8091⟩
      refine yll_cons rfl (fun w8093 hi8094 => ?_) ?_
      ·
       have hb8095 := low0 hb7865 hi8094
       refine wpo_run rfl rfl rfl h7895 ?_
       have k8096 := (hN7864.blk.grown0 hi8094)
       refine wpo_loadn (vs := [.int .i64 l.s, .int .i64 l.v]) rt_40 rfl rfl (k8096.rangeL 0 2 rfl) rfl ?_
       exact wpo_nil ⟨rfl, hi8094⟩
      refine yll_cons rfl (fun w8097 hi8098 => ?_) ?_
      ·
       have hb8099 := low0 hb7865 hi8098
       refine wpo_run rfl rfl rfl h7895 ?_
       refine wpo_call (vs := [.agg #[.int .i64 l.s, .int .i64 l.v]]) gf_35 (args_cons rfl args_nil) rfl (sLabelOk_c l _) ?_
       rintro _ w8100 ⟨rfl, hg8101⟩
       have hb8102 := low0 hb8099 hg8101
       exact wpo_nil ⟨rfl, (grown_trans hi8098 hg8101)⟩
      refine yll_cons rfl (fun w8103 hi8104 => ?_) ?_
      ·
       have hb8105 := low0 hb7865 hi8104
       refine wpo_pickt (v := .bool (labelOk l)) rfl h7895 rfl rfl ?_
       exact wpo_nil ⟨rfl, hi8104⟩
      refine yll_cons rfl (fun w8106 hi8107 => ?_) ?_
      ·
       have hb8108 := low0 hb7865 hi8107
       refine wpo_move (v := .bool (labelOk l)) rfl rfl ?_
       exact wpo_nil ⟨rfl, hi8107⟩
      refine yll_cons rfl (fun w8109 hi8110 => ?_) ?_
      ·
       have hb8111 := low0 hb7865 hi8110
       refine wpo_run rfl rfl rfl h7903 ?_
       refine wpo_move (v := .int .i64 k) rfl rfl ?_
       exact wpo_nil ⟨rfl, hi8110⟩
      refine yll_cons rfl (fun w8112 hi8113 => ?_) ?_
      ·
       have hb8114 := low0 hb7865 hi8113
       refine wpo_run rfl rfl rfl h7903 ?_
       refine wpo_move (v := .slice a ms.length c) rfl rfl ?_
       exact wpo_nil ⟨rfl, hi8113⟩
      refine yll_cons rfl (fun w8115 hi8116 => ?_) ?_
      ·
       have hb8117 := low0 hb7865 hi8116
       refine wpo_run rfl rfl rfl h7903 ?_
       refine wpo_len (by kernel_rfl) rfl rfl ?_
       exact wpo_nil ⟨rfl, hi8116⟩
      refine yll_cons rfl (fun w8118 hi8119 => ?_) ?_
      ·
       have hb8120 := low0 hb7865 hi8119
       refine wpo_run rfl rfl rfl h7903 ?_
       refine wpo_call (vs := [.int .i64 k, .int .i64 1, .int .i64 (ms.length : Int)]) gf_85 (args_cons rfl (args_cons rfl (args_cons rfl args_nil))) rfl (l6In_c k 1 (ms.length : Int) _) ?_
       rintro _ w8121 ⟨rfl, hg8122⟩
       have hb8123 := low0 hb8120 hg8122
       exact wpo_nil ⟨rfl, (grown_trans hi8119 hg8122)⟩
      refine yll_cons rfl (fun w8124 hi8125 => ?_) ?_
      ·
       have hb8126 := low0 hb7865 hi8125
       refine wpo_pickt (v := .bool (inR k 1 (ms.length : Int))) rfl h7903 rfl rfl ?_
       exact wpo_nil ⟨rfl, hi8125⟩
      refine yll_cons rfl (fun w8127 hi8128 => ?_) ?_
      ·
       have hb8129 := low0 hb7865 hi8128
       refine wpo_move (v := .bool (inR k 1 (ms.length : Int))) rfl rfl ?_
       exact wpo_nil ⟨rfl, hi8128⟩
      refine yll_cons rfl (fun w8130 hi8131 => ?_) ?_
      ·
       have hb8132 := low0 hb7865 hi8131
       refine wpo_pass rfl rfl rfl h7914 rfl ?_
       exact wpo_nil ⟨rfl, hi8131⟩
      refine yll_cons rfl (fun w8133 hi8134 => ?_) ?_
      ·
       have hb8135 := low0 hb7865 hi8134
       refine wpo_pass rfl rfl rfl h7914 rfl ?_
       exact wpo_nil ⟨rfl, hi8134⟩
      refine yll_cons rfl (fun w8136 hi8137 => ?_) ?_
      ·
       have hb8138 := low0 hb7865 hi8137
       refine wpo_pass rfl rfl rfl h7914 rfl ?_
       exact wpo_nil ⟨rfl, hi8137⟩
      refine yll_cons rfl (fun w8139 hi8140 => ?_) ?_
      ·
       have hb8141 := low0 hb7865 hi8140
       refine wpo_pass rfl rfl rfl h7914 rfl ?_
       exact wpo_nil ⟨rfl, hi8140⟩
      refine yll_cons rfl (fun w8142 hi8143 => ?_) ?_
      ·
       have hb8144 := low0 hb7865 hi8143
       refine wpo_pass rfl rfl rfl h7914 rfl ?_
       exact wpo_nil ⟨rfl, hi8143⟩
      refine yll_cons rfl (fun w8145 hi8146 => ?_) ?_
      ·
       have hb8147 := low0 hb7865 hi8146
       refine wpo_pass rfl rfl rfl h7914 rfl ?_
       exact wpo_nil ⟨rfl, hi8146⟩
      refine yll_cons rfl (fun w8148 hi8149 => ?_) ?_
      ·
       have hb8150 := low0 hb7865 hi8149
       refine wpo_pass rfl rfl rfl h7914 rfl ?_
       exact wpo_nil ⟨rfl, hi8149⟩
      exact yll_nil
     ·
      intro w8151 hi8152
      have hb8153 := low0 hb7865 hi8152
      refine wpo_pass rfl rfl rfl h7914 rfl ?_
      refine wpo_pass rfl rfl rfl h7914 rfl ?_
      refine wpo_pickf (v := .bool false) rfl h7914 rfl rfl ?_
      refine wpo_assign (v := .bool false) rfl rfl ?_
      exact wpo_nil (thn_n ⟨(congrArg Value.bool (by first | (simp only [h7895, h7903, h7914, b0, b1, b2, b3, b4, b5, b6, b7, b8, b9]; done) | simp [h7895, h7903, h7914])), hi8152⟩)
   ·
    refine wpf_draw (m := 20) (vals := [(7, .slice a ms.length c), (8, .bool (tableOk (tabT ms))), (9, .bool (tableOk (tabT ms))), (10, .agg #[.int .i64 l.s, .int .i64 l.v]), (11, .bool (labelOk l)), (12, .bool (labelOk l)), (13, .bool (labelOk l)), (14, undef), (15, undef), (16, undef), (17, undef), (18, .bool false), (19, .bool false), (20, undef), (21, undef), (22, undef), (23, undef), (24, undef), (25, undef), (26, undef)]) (fun w' => w7863.grownBy w' none) mixed_ (by kernel_rfl) (grown_drew _) ?_ ?_
    ·
     refine yll_cons rfl (fun w8175 hi8176 => ?_) ?_
     ·
      have hb8177 := low0 hb7865 hi8176
      refine wpo_move (v := .slice a ms.length c) rfl rfl ?_
      exact wpo_nil ⟨rfl, hi8176⟩
     refine yll_cons rfl (fun w8178 hi8179 => ?_) ?_
     ·
      have hb8180 := low0 hb7865 hi8179
      refine wpo_call (vs := [.slice a ms.length c]) gf_34 (args_cons rfl args_nil) rfl (sTableOk_c  _ ms _ _ (TabAt.low ht hb8180) hlen (by omega)) ?_
      rintro _ w8181 ⟨rfl, hg8182⟩
      have hb8183 := low0 hb8180 hg8182
      exact wpo_nil ⟨rfl, (grown_trans hi8179 hg8182)⟩
     refine yll_cons rfl (fun w8184 hi8185 => ?_) ?_
     ·
      have hb8186 := low0 hb7865 hi8185
      refine wpo_move (v := .bool (tableOk (tabT ms))) rfl rfl ?_
      exact wpo_nil ⟨rfl, hi8185⟩
     refine yll_cons rfl (fun w8187 hi8188 => ?_) ?_
     ·
      have hb8189 := low0 hb7865 hi8188
      refine wpo_run rfl rfl rfl h7895 ?_
      have k8190 := (hN7864.blk.grown0 hi8188)
      refine wpo_loadn (vs := [.int .i64 l.s, .int .i64 l.v]) rt_40 rfl rfl (k8190.rangeL 0 2 rfl) rfl ?_
      exact wpo_nil ⟨rfl, hi8188⟩
     refine yll_cons rfl (fun w8191 hi8192 => ?_) ?_
     ·
      have hb8193 := low0 hb7865 hi8192
      refine wpo_run rfl rfl rfl h7895 ?_
      refine wpo_call (vs := [.agg #[.int .i64 l.s, .int .i64 l.v]]) gf_35 (args_cons rfl args_nil) rfl (sLabelOk_c l _) ?_
      rintro _ w8194 ⟨rfl, hg8195⟩
      have hb8196 := low0 hb8193 hg8195
      exact wpo_nil ⟨rfl, (grown_trans hi8192 hg8195)⟩
     refine yll_cons rfl (fun w8197 hi8198 => ?_) ?_
     ·
      have hb8199 := low0 hb7865 hi8198
      refine wpo_pickt (v := .bool (labelOk l)) rfl h7895 rfl rfl ?_
      exact wpo_nil ⟨rfl, hi8198⟩
     refine yll_cons rfl (fun w8200 hi8201 => ?_) ?_
     ·
      have hb8202 := low0 hb7865 hi8201
      refine wpo_move (v := .bool (labelOk l)) rfl rfl ?_
      exact wpo_nil ⟨rfl, hi8201⟩
     refine yll_cons rfl (fun w8203 hi8204 => ?_) ?_
     ·
      have hb8205 := low0 hb7865 hi8204
      refine wpo_pass rfl rfl rfl h7903 rfl ?_
      exact wpo_nil ⟨rfl, hi8204⟩
     refine yll_cons rfl (fun w8206 hi8207 => ?_) ?_
     ·
      have hb8208 := low0 hb7865 hi8207
      refine wpo_pass rfl rfl rfl h7903 rfl ?_
      exact wpo_nil ⟨rfl, hi8207⟩
     refine yll_cons rfl (fun w8209 hi8210 => ?_) ?_
     ·
      have hb8211 := low0 hb7865 hi8210
      refine wpo_pass rfl rfl rfl h7903 rfl ?_
      exact wpo_nil ⟨rfl, hi8210⟩
     refine yll_cons rfl (fun w8212 hi8213 => ?_) ?_
     ·
      have hb8214 := low0 hb7865 hi8213
      refine wpo_pass rfl rfl rfl h7903 rfl ?_
      exact wpo_nil ⟨rfl, hi8213⟩
     refine yll_cons rfl (fun w8215 hi8216 => ?_) ?_
     ·
      have hb8217 := low0 hb7865 hi8216
      refine wpo_pickf (v := .bool false) rfl h7903 rfl rfl ?_
      exact wpo_nil ⟨rfl, hi8216⟩
     refine yll_cons rfl (fun w8218 hi8219 => ?_) ?_
     ·
      have hb8220 := low0 hb7865 hi8219
      refine wpo_move (v := .bool false) rfl rfl ?_
      exact wpo_nil ⟨rfl, hi8219⟩
     refine yll_cons rfl (fun w8221 hi8222 => ?_) ?_
     ·
      have hb8223 := low0 hb7865 hi8222
      refine wpo_pass rfl rfl rfl rfl rfl ?_
      exact wpo_nil ⟨rfl, hi8222⟩
     refine yll_cons rfl (fun w8224 hi8225 => ?_) ?_
     ·
      have hb8226 := low0 hb7865 hi8225
      refine wpo_pass rfl rfl rfl rfl rfl ?_
      exact wpo_nil ⟨rfl, hi8225⟩
     refine yll_cons rfl (fun w8227 hi8228 => ?_) ?_
     ·
      have hb8229 := low0 hb7865 hi8228
      refine wpo_pass rfl rfl rfl rfl rfl ?_
      exact wpo_nil ⟨rfl, hi8228⟩
     refine yll_cons rfl (fun w8230 hi8231 => ?_) ?_
     ·
      have hb8232 := low0 hb7865 hi8231
      refine wpo_pass rfl rfl rfl rfl rfl ?_
      exact wpo_nil ⟨rfl, hi8231⟩
     refine yll_cons rfl (fun w8233 hi8234 => ?_) ?_
     ·
      have hb8235 := low0 hb7865 hi8234
      refine wpo_pass rfl rfl rfl rfl rfl ?_
      exact wpo_nil ⟨rfl, hi8234⟩
     refine yll_cons rfl (fun w8236 hi8237 => ?_) ?_
     ·
      have hb8238 := low0 hb7865 hi8237
      refine wpo_pass rfl rfl rfl rfl rfl ?_
      exact wpo_nil ⟨rfl, hi8237⟩
     refine yll_cons rfl (fun w8239 hi8240 => ?_) ?_
     ·
      have hb8241 := low0 hb7865 hi8240
      refine wpo_pass rfl rfl rfl rfl rfl ?_
      exact wpo_nil ⟨rfl, hi8240⟩
     exact yll_nil
    ·
     intro w8242 hi8243
     have hb8244 := low0 hb7865 hi8243
     refine wpo_pass rfl rfl rfl rfl rfl ?_
     refine wpo_pass rfl rfl rfl rfl rfl ?_
     refine wpo_pickf (v := .bool false) rfl rfl rfl rfl ?_
     refine wpo_assign (v := .bool false) rfl rfl ?_
     exact wpo_nil (thn_n ⟨(congrArg Value.bool (by first | (simp only [h7895, h7903, b0, b1, b2, b3, b4, b5, b6, b7, b8, b9]; done) | simp [h7895, h7903])), hi8243⟩)
  ·
   refine wpf_draw (m := 20) (vals := [(7, .slice a ms.length c), (8, .bool (tableOk (tabT ms))), (9, .bool (tableOk (tabT ms))), (10, undef), (11, undef), (12, .bool false), (13, .bool false), (14, undef), (15, undef), (16, undef), (17, undef), (18, .bool false), (19, .bool false), (20, undef), (21, undef), (22, undef), (23, undef), (24, undef), (25, undef), (26, undef)]) (fun w' => w7863.grownBy w' none) mixed_ (by kernel_rfl) (grown_drew _) ?_ ?_
   ·
    refine yll_cons rfl (fun w8254 hi8255 => ?_) ?_
    ·
     have hb8256 := low0 hb7865 hi8255
     refine wpo_move (v := .slice a ms.length c) rfl rfl ?_
     exact wpo_nil ⟨rfl, hi8255⟩
    refine yll_cons rfl (fun w8257 hi8258 => ?_) ?_
    ·
     have hb8259 := low0 hb7865 hi8258
     refine wpo_call (vs := [.slice a ms.length c]) gf_34 (args_cons rfl args_nil) rfl (sTableOk_c  _ ms _ _ (TabAt.low ht hb8259) hlen (by omega)) ?_
     rintro _ w8260 ⟨rfl, hg8261⟩
     have hb8262 := low0 hb8259 hg8261
     exact wpo_nil ⟨rfl, (grown_trans hi8258 hg8261)⟩
    refine yll_cons rfl (fun w8263 hi8264 => ?_) ?_
    ·
     have hb8265 := low0 hb7865 hi8264
     refine wpo_move (v := .bool (tableOk (tabT ms))) rfl rfl ?_
     exact wpo_nil ⟨rfl, hi8264⟩
    refine yll_cons rfl (fun w8266 hi8267 => ?_) ?_
    ·
     have hb8268 := low0 hb7865 hi8267
     refine wpo_pass rfl rfl rfl h7895 rfl ?_
     exact wpo_nil ⟨rfl, hi8267⟩
    refine yll_cons rfl (fun w8269 hi8270 => ?_) ?_
    ·
     have hb8271 := low0 hb7865 hi8270
     refine wpo_pass rfl rfl rfl h7895 rfl ?_
     exact wpo_nil ⟨rfl, hi8270⟩
    refine yll_cons rfl (fun w8272 hi8273 => ?_) ?_
    ·
     have hb8274 := low0 hb7865 hi8273
     refine wpo_pickf (v := .bool false) rfl h7895 rfl rfl ?_
     exact wpo_nil ⟨rfl, hi8273⟩
    refine yll_cons rfl (fun w8275 hi8276 => ?_) ?_
    ·
     have hb8277 := low0 hb7865 hi8276
     refine wpo_move (v := .bool false) rfl rfl ?_
     exact wpo_nil ⟨rfl, hi8276⟩
    refine yll_cons rfl (fun w8278 hi8279 => ?_) ?_
    ·
     have hb8280 := low0 hb7865 hi8279
     refine wpo_pass rfl rfl rfl rfl rfl ?_
     exact wpo_nil ⟨rfl, hi8279⟩
    refine yll_cons rfl (fun w8281 hi8282 => ?_) ?_
    ·
     have hb8283 := low0 hb7865 hi8282
     refine wpo_pass rfl rfl rfl rfl rfl ?_
     exact wpo_nil ⟨rfl, hi8282⟩
    refine yll_cons rfl (fun w8284 hi8285 => ?_) ?_
    ·
     have hb8286 := low0 hb7865 hi8285
     refine wpo_pass rfl rfl rfl rfl rfl ?_
     exact wpo_nil ⟨rfl, hi8285⟩
    refine yll_cons rfl (fun w8287 hi8288 => ?_) ?_
    ·
     have hb8289 := low0 hb7865 hi8288
     refine wpo_pass rfl rfl rfl rfl rfl ?_
     exact wpo_nil ⟨rfl, hi8288⟩
    refine yll_cons rfl (fun w8290 hi8291 => ?_) ?_
    ·
     have hb8292 := low0 hb7865 hi8291
     refine wpo_pickf (v := .bool false) rfl rfl rfl rfl ?_
     exact wpo_nil ⟨rfl, hi8291⟩
    refine yll_cons rfl (fun w8293 hi8294 => ?_) ?_
    ·
     have hb8295 := low0 hb7865 hi8294
     refine wpo_move (v := .bool false) rfl rfl ?_
     exact wpo_nil ⟨rfl, hi8294⟩
    refine yll_cons rfl (fun w8296 hi8297 => ?_) ?_
    ·
     have hb8298 := low0 hb7865 hi8297
     refine wpo_pass rfl rfl rfl rfl rfl ?_
     exact wpo_nil ⟨rfl, hi8297⟩
    refine yll_cons rfl (fun w8299 hi8300 => ?_) ?_
    ·
     have hb8301 := low0 hb7865 hi8300
     refine wpo_pass rfl rfl rfl rfl rfl ?_
     exact wpo_nil ⟨rfl, hi8300⟩
    refine yll_cons rfl (fun w8302 hi8303 => ?_) ?_
    ·
     have hb8304 := low0 hb7865 hi8303
     refine wpo_pass rfl rfl rfl rfl rfl ?_
     exact wpo_nil ⟨rfl, hi8303⟩
    refine yll_cons rfl (fun w8305 hi8306 => ?_) ?_
    ·
     have hb8307 := low0 hb7865 hi8306
     refine wpo_pass rfl rfl rfl rfl rfl ?_
     exact wpo_nil ⟨rfl, hi8306⟩
    refine yll_cons rfl (fun w8308 hi8309 => ?_) ?_
    ·
     have hb8310 := low0 hb7865 hi8309
     refine wpo_pass rfl rfl rfl rfl rfl ?_
     exact wpo_nil ⟨rfl, hi8309⟩
    refine yll_cons rfl (fun w8311 hi8312 => ?_) ?_
    ·
     have hb8313 := low0 hb7865 hi8312
     refine wpo_pass rfl rfl rfl rfl rfl ?_
     exact wpo_nil ⟨rfl, hi8312⟩
    refine yll_cons rfl (fun w8314 hi8315 => ?_) ?_
    ·
     have hb8316 := low0 hb7865 hi8315
     refine wpo_pass rfl rfl rfl rfl rfl ?_
     exact wpo_nil ⟨rfl, hi8315⟩
    exact yll_nil
   ·
    intro w8317 hi8318
    have hb8319 := low0 hb7865 hi8318
    refine wpo_pass rfl rfl rfl rfl rfl ?_
    refine wpo_pass rfl rfl rfl rfl rfl ?_
    refine wpo_pickf (v := .bool false) rfl rfl rfl rfl ?_
    refine wpo_assign (v := .bool false) rfl rfl ?_
    exact wpo_nil (thn_n ⟨(congrArg Value.bool (by first | (simp only [h7895, b0, b1, b2, b3, b4, b5, b6, b7, b8, b9]; done) | simp [h7895])), hi8318⟩)
 ·
  rintro f8320 w8321 ⟨e8322, hg8323⟩
  have hb8324 := low0 hb7865 hg8323
  refine wpf_ret ?_
  refine ⟨.bool (((tableOk (tabT ms) && labelOk l) && inR k 1 (ms.length : Int)) && (!flow ((mAt ms ((k - 1).toNat)).t.lab) l)), res1 rfl e8322, ?_, hb8324⟩
  exact congrArg Value.bool viewHigh_s

end Go.Proofs.Ytlkmdoebmklbbaa
