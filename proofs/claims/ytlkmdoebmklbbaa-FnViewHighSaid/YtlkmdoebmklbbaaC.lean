/- Walks, printed by a program of mine (gen.py) out of the functions. -/
import Derived.Test.YtlkmdoebmklbbaaG
import Derived.Test.YtlkmdoebmklbbaaN
namespace Go.Proofs.Ytlkmdoebmklbbaa
open Go.RowKit Go.Dw
set_option maxRecDepth 100000
set_option maxHeartbeats 4000000
set_option linter.unusedSimpArgs false
set_option linter.unusedVariables false
theorem at_96 : arrTy Try.prog 96 = some (4, 29, 5) := by kernel_rfl
theorem fo_45_0 : fieldOff Try.prog 45 0 = some 0 := by kernel_rfl
theorem fo_45_1 : fieldOff Try.prog 45 1 = some 1 := by kernel_rfl
theorem fo_45_2 : fieldOff Try.prog 45 2 = some 3 := by kernel_rfl
theorem fo_45_3 : fieldOff Try.prog 45 3 = some 4 := by kernel_rfl
theorem fo_45_4 : fieldOff Try.prog 45 4 = some 5 := by kernel_rfl
theorem fo_45_5 : fieldOff Try.prog 45 5 = some 6 := by kernel_rfl
theorem fo_45_6 : fieldOff Try.prog 45 6 = some 7 := by kernel_rfl
theorem gf_35 : goFn Try.prog 35 = true := by kernel_rfl
theorem gf_66 : goFn Try.prog 66 = true := by kernel_rfl
theorem gf_69 : goFn Try.prog 69 = true := by kernel_rfl
theorem gf_71 : goFn Try.prog 71 = true := by kernel_rfl
theorem gf_72 : goFn Try.prog 72 = true := by kernel_rfl
theorem gf_73 : goFn Try.prog 73 = true := by kernel_rfl
theorem gf_74 : goFn Try.prog 74 = true := by kernel_rfl
theorem gf_75 : goFn Try.prog 75 = true := by kernel_rfl
theorem ot_27 : oneTy Try.prog 27 = true := by kernel_rfl
theorem ot_43 : oneTy Try.prog 43 = true := by kernel_rfl
theorem rt_45 : rowTy Try.prog 45 = some 8 := by kernel_rfl
theorem rt_96 : rowTy Try.prog 96 = some 20 := by kernel_rfl
theorem versOk_c (m : MTh) (w : World) : CallsR Try.prog 71 #[.agg #[.int .i64 m.t.kind, .int .i64 m.t.lab.s, .int .i64 m.t.lab.v, .int .i64 m.t.ve, .int .i64 m.t.num, .slice m.sa m.t.slots.length m.sc, .slice m.qa m.t.queue.length m.qc, .int .i64 m.t.to]] w (fun v w' => v = .bool (versOk m.t) ∧ w.grownBy w' none) := by
 refine calls_of_wpf (n := 15) Try.func71 rfl Try.ntmps71 rfl ?_
 have hb0 := World.grownBy.refl w none
 refine wpf_seq_region ?_
 refine wpo_box (v := .agg #[.int .i64 m.t.kind, .int .i64 m.t.lab.s, .int .i64 m.t.lab.v, .int .i64 m.t.ve, .int .i64 m.t.num, .slice m.sa m.t.slots.length m.sc, .slice m.qa m.t.queue.length m.qc, .int .i64 m.t.to]) (cs := #[.int .i64 m.t.kind, .int .i64 m.t.lab.s, .int .i64 m.t.lab.v, .int .i64 m.t.ve, .int .i64 m.t.num, .slice m.sa m.t.slots.length m.sc, .slice m.qa m.t.queue.length m.qc, .int .i64 m.t.to]) rfl rfl rfl ?_
 intro B3550 w3551 hN3552
 have hlB3550 := hN_ge hN3552 hb0
 have hb3553 := low0 hb0 hN3552.grw
 refine wpo_assign (v := .bool false) rfl rfl ?_
 refine wpo_nil ?_
 refine wpf_seq ?_
 refine wpf_seq_region ?_
 refine wpo_fieldAddr (o' := 0) fo_45_0 rfl rfl rfl ?_
 refine wpo_load1 (v := .int .i64 m.t.kind) ot_3 rfl (hN3552.blk.cell rfl) rfl ?_
 refine wpo_nil ?_
 refine wpf_block ?_
 refine wpf_seq ?_
 refine wpf_seq_region ?_
 refine wpo_eql (q := decide (m.t.kind = 1)) rfl rfl rfl rfl ?_
 refine wpo_assign (v := .bool (decide (m.t.kind = 1))) rfl rfl ?_
 refine wpo_nil ?_
 refine wpf_cond rfl (fun h3554 => ?_) (fun h3554 => ?_)
 ·
  have h3555 := of_decide_eq_true h3554
  refine wpf_skip ?_
  refine thn_n ?_
  refine wpf_condt rfl h3554 ?_
  refine wpf_seq_region ?_
  refine wpo_fieldAddr (o' := 3) fo_45_2 rfl rfl rfl ?_
  refine wpo_load1 (v := .int .i64 m.t.ve) ot_3 rfl (hN3552.blk.cell rfl) rfl ?_
  refine wpo_call (vs := [.int .i64 m.t.ve, .int .i64 0, .int .i64 5]) gf_69 (args_cons rfl (args_cons rfl (args_cons rfl args_nil))) rfl (inRange_c m.t.ve 0 5 _) ?_
  rintro _ w3556 ⟨rfl, hg3557⟩
  have hb3558 := low0 hb3553 hg3557
  refine wpo_assign (v := .bool (inR m.t.ve 0 5)) rfl rfl ?_
  refine wpo_nil ?_
  refine wpf_ret ?_
  refine blk_r ?_
  refine thn_r ?_
  refine ⟨.bool (inR m.t.ve 0 5), res1 rfl rfl, ?_, hb3558⟩
  first | (simp [versOk, h3555]; done) | (simp [versOk, h3555]; omega) | (simp [versOk, h3555]; intros; omega)
 ·
  have h3559 := of_decide_eq_false h3554
  refine wpf_seq_region ?_
  refine wpo_eql (q := decide (m.t.kind = 2)) rfl rfl rfl rfl ?_
  refine wpo_assign (v := .bool (decide (m.t.kind = 2))) rfl rfl ?_
  refine wpo_nil ?_
  refine wpf_cond rfl (fun h3560 => ?_) (fun h3560 => ?_)
  ·
   have h3561 := of_decide_eq_true h3560
   refine wpf_skip ?_
   refine thn_n ?_
   refine wpf_condt rfl h3560 ?_
   refine wpf_seq_region ?_
   refine wpo_fieldAddr (o' := 3) fo_45_2 rfl rfl rfl ?_
   refine wpo_load1 (v := .int .i64 m.t.ve) ot_3 rfl (hN3552.blk.cell rfl) rfl ?_
   refine wpo_call (vs := [.int .i64 m.t.ve, .int .i64 0, .int .i64 5]) gf_69 (args_cons rfl (args_cons rfl (args_cons rfl args_nil))) rfl (inRange_c m.t.ve 0 5 _) ?_
   rintro _ w3562 ⟨rfl, hg3563⟩
   have hb3564 := low0 hb3553 hg3563
   refine wpo_assign (v := .bool (inR m.t.ve 0 5)) rfl rfl ?_
   refine wpo_nil ?_
   refine wpf_ret ?_
   refine blk_r ?_
   refine thn_r ?_
   refine ⟨.bool (inR m.t.ve 0 5), res1 rfl rfl, ?_, hb3564⟩
   first | (simp [versOk, h3559, h3561]; done) | (simp [versOk, h3559, h3561]; omega) | (simp [versOk, h3559, h3561]; intros; omega)
  ·
   have h3565 := of_decide_eq_false h3560
   refine wpf_region ?_
   refine wpo_eql (q := decide (m.t.kind = 4)) rfl rfl rfl rfl ?_
   refine wpo_assign (v := .bool (decide (m.t.kind = 4))) rfl rfl ?_
   refine wpo_nil ?_
   refine thn_n ?_
   refine wpf_cond rfl (fun h3566 => ?_) (fun h3566 => ?_)
   ·
    have h3567 := of_decide_eq_true h3566
    refine wpf_seq_region ?_
    refine wpo_fieldAddr (o' := 3) fo_45_2 rfl rfl rfl ?_
    refine wpo_load1 (v := .int .i64 m.t.ve) ot_3 rfl (hN3552.blk.cell rfl) rfl ?_
    refine wpo_call (vs := [.int .i64 m.t.ve, .int .i64 0, .int .i64 5]) gf_69 (args_cons rfl (args_cons rfl (args_cons rfl args_nil))) rfl (inRange_c m.t.ve 0 5 _) ?_
    rintro _ w3568 ⟨rfl, hg3569⟩
    have hb3570 := low0 hb3553 hg3569
    refine wpo_assign (v := .bool (inR m.t.ve 0 5)) rfl rfl ?_
    refine wpo_nil ?_
    refine wpf_ret ?_
    refine blk_r ?_
    refine thn_r ?_
    refine ⟨.bool (inR m.t.ve 0 5), res1 rfl rfl, ?_, hb3570⟩
    first | (simp [versOk, h3559, h3565, h3567]; done) | (simp [versOk, h3559, h3565, h3567]; omega) | (simp [versOk, h3559, h3565, h3567]; intros; omega)
   ·
    have h3571 := of_decide_eq_false h3566
    refine wpf_skip ?_
    refine blk_n ?_
    refine thn_n ?_
    refine wpf_seq_region ?_
    refine wpo_fieldAddr (o' := 3) fo_45_2 rfl rfl rfl ?_
    refine wpo_load1 (v := .int .i64 m.t.ve) ot_3 rfl (hN3552.blk.cell rfl) rfl ?_
    refine wpo_eql (q := decide (m.t.ve = 0)) rfl rfl rfl rfl ?_
    refine wpo_assign (v := .bool (decide (m.t.ve = 0))) rfl rfl ?_
    refine wpo_nil ?_
    refine wpf_ret ?_
    refine ⟨.bool (decide (m.t.ve = 0)), res1 rfl rfl, ?_, hb3553⟩
    first | (simp [versOk, h3559, h3565, h3571]; done) | (simp [versOk, h3559, h3565, h3571]; omega) | (simp [versOk, h3559, h3565, h3571]; intros; omega)

theorem numOk_c (m : MTh) (w : World) : CallsR Try.prog 72 #[.agg #[.int .i64 m.t.kind, .int .i64 m.t.lab.s, .int .i64 m.t.lab.v, .int .i64 m.t.ve, .int .i64 m.t.num, .slice m.sa m.t.slots.length m.sc, .slice m.qa m.t.queue.length m.qc, .int .i64 m.t.to]] w (fun v w' => v = .bool (numOk m.t) ∧ w.grownBy w' none) := by
 refine calls_of_wpf (n := 19) Try.func72 rfl Try.ntmps72 rfl ?_
 have hb0 := World.grownBy.refl w none
 refine wpf_seq_region ?_
 refine wpo_box (v := .agg #[.int .i64 m.t.kind, .int .i64 m.t.lab.s, .int .i64 m.t.lab.v, .int .i64 m.t.ve, .int .i64 m.t.num, .slice m.sa m.t.slots.length m.sc, .slice m.qa m.t.queue.length m.qc, .int .i64 m.t.to]) (cs := #[.int .i64 m.t.kind, .int .i64 m.t.lab.s, .int .i64 m.t.lab.v, .int .i64 m.t.ve, .int .i64 m.t.num, .slice m.sa m.t.slots.length m.sc, .slice m.qa m.t.queue.length m.qc, .int .i64 m.t.to]) rfl rfl rfl ?_
 intro B3572 w3573 hN3574
 have hlB3572 := hN_ge hN3574 hb0
 have hb3575 := low0 hb0 hN3574.grw
 refine wpo_assign (v := .bool false) rfl rfl ?_
 refine wpo_nil ?_
 refine wpf_seq ?_
 refine wpf_seq_region ?_
 refine wpo_fieldAddr (o' := 0) fo_45_0 rfl rfl rfl ?_
 refine wpo_load1 (v := .int .i64 m.t.kind) ot_3 rfl (hN3574.blk.cell rfl) rfl ?_
 refine wpo_nil ?_
 refine wpf_block ?_
 refine wpf_seq ?_
 refine wpf_seq_region ?_
 refine wpo_eql (q := decide (m.t.kind = 1)) rfl rfl rfl rfl ?_
 refine wpo_assign (v := .bool (decide (m.t.kind = 1))) rfl rfl ?_
 refine wpo_nil ?_
 refine wpf_cond rfl (fun h3576 => ?_) (fun h3576 => ?_)
 ·
  have h3577 := of_decide_eq_true h3576
  refine wpf_skip ?_
  refine thn_n ?_
  refine wpf_condt rfl h3576 ?_
  refine wpf_seq_region ?_
  refine wpo_fieldAddr (o' := 4) fo_45_3 rfl rfl rfl ?_
  refine wpo_load1 (v := .int .i64 m.t.num) ot_3 rfl (hN3574.blk.cell rfl) rfl ?_
  refine wpo_call (vs := [.int .i64 m.t.num, .int .i64 0, .int .i64 99]) gf_69 (args_cons rfl (args_cons rfl (args_cons rfl args_nil))) rfl (inRange_c m.t.num 0 99 _) ?_
  rintro _ w3578 ⟨rfl, hg3579⟩
  have hb3580 := low0 hb3575 hg3579
  refine wpo_assign (v := .bool (inR m.t.num 0 99)) rfl rfl ?_
  refine wpo_nil ?_
  refine wpf_ret ?_
  refine blk_r ?_
  refine thn_r ?_
  refine ⟨.bool (inR m.t.num 0 99), res1 rfl rfl, ?_, hb3580⟩
  first | (simp [numOk, h3577]; done) | (simp [numOk, h3577]; omega) | (simp [numOk, h3577]; intros; omega)
 ·
  have h3581 := of_decide_eq_false h3576
  refine wpf_region ?_
  refine wpo_eql (q := decide (m.t.kind = 5)) rfl rfl rfl rfl ?_
  refine wpo_assign (v := .bool (decide (m.t.kind = 5))) rfl rfl ?_
  refine wpo_nil ?_
  refine thn_n ?_
  refine wpf_cond rfl (fun h3582 => ?_) (fun h3582 => ?_)
  ·
   have h3583 := of_decide_eq_true h3582
   refine wpf_seq_region ?_
   refine wpo_fieldAddr (o' := 4) fo_45_3 rfl rfl rfl ?_
   refine wpo_load1 (v := .int .i64 m.t.num) ot_3 rfl (hN3574.blk.cell rfl) rfl ?_
   refine wpo_call (vs := [.int .i64 m.t.num, .int .i64 0, .int .i64 99]) gf_69 (args_cons rfl (args_cons rfl (args_cons rfl args_nil))) rfl (inRange_c m.t.num 0 99 _) ?_
   rintro _ w3584 ⟨rfl, hg3585⟩
   have hb3586 := low0 hb3575 hg3585
   refine wpo_assign (v := .bool (inR m.t.num 0 99)) rfl rfl ?_
   refine wpo_nil ?_
   refine wpf_ret ?_
   refine blk_r ?_
   refine thn_r ?_
   refine ⟨.bool (inR m.t.num 0 99), res1 rfl rfl, ?_, hb3586⟩
   first | (simp [numOk, h3581, h3583]; done) | (simp [numOk, h3581, h3583]; omega) | (simp [numOk, h3581, h3583]; intros; omega)
  ·
   have h3587 := of_decide_eq_false h3582
   refine wpf_seq_region ?_
   refine wpo_eql (q := decide (m.t.kind = 3)) rfl rfl rfl rfl ?_
   refine wpo_assign (v := .bool (decide (m.t.kind = 3))) rfl rfl ?_
   refine wpo_nil ?_
   refine wpf_cond rfl (fun h3588 => ?_) (fun h3588 => ?_)
   ·
    have h3589 := of_decide_eq_true h3588
    refine wpf_seq_region ?_
    refine wpo_fieldAddr (o' := 4) fo_45_3 rfl rfl rfl ?_
    refine wpo_load1 (v := .int .i64 m.t.num) ot_3 rfl (hN3574.blk.cell rfl) rfl ?_
    refine wpo_call (vs := [.int .i64 m.t.num, .int .i64 (-4), .int .i64 99]) gf_69 (args_cons rfl (args_cons rfl (args_cons rfl args_nil))) rfl (inRange_c m.t.num (-4) 99 _) ?_
    rintro _ w3590 ⟨rfl, hg3591⟩
    have hb3592 := low0 hb3575 hg3591
    refine wpo_assign (v := .bool (inR m.t.num (-4) 99)) rfl rfl ?_
    refine wpo_nil ?_
    refine wpf_ret ?_
    refine blk_r ?_
    refine thn_r ?_
    refine ⟨.bool (inR m.t.num (-4) 99), res1 rfl rfl, ?_, hb3592⟩
    first | (simp [numOk, h3581, h3587, h3589]; done) | (simp [numOk, h3581, h3587, h3589]; omega) | (simp [numOk, h3581, h3587, h3589]; intros; omega)
   ·
    have h3593 := of_decide_eq_false h3588
    refine wpf_skip ?_
    refine blk_n ?_
    refine thn_n ?_
    refine wpf_seq_region ?_
    refine wpo_fieldAddr (o' := 4) fo_45_3 rfl rfl rfl ?_
    refine wpo_load1 (v := .int .i64 m.t.num) ot_3 rfl (hN3574.blk.cell rfl) rfl ?_
    refine wpo_eql (q := decide (m.t.num = 0)) rfl rfl rfl rfl ?_
    refine wpo_assign (v := .bool (decide (m.t.num = 0))) rfl rfl ?_
    refine wpo_nil ?_
    refine wpf_ret ?_
    refine ⟨.bool (decide (m.t.num = 0)), res1 rfl rfl, ?_, hb3575⟩
    first | (simp [numOk, h3581, h3587, h3593]; done) | (simp [numOk, h3581, h3587, h3593]; omega) | (simp [numOk, h3581, h3587, h3593]; intros; omega)

theorem targetOk_c (m : MTh) (w : World) : CallsR Try.prog 75 #[.agg #[.int .i64 m.t.kind, .int .i64 m.t.lab.s, .int .i64 m.t.lab.v, .int .i64 m.t.ve, .int .i64 m.t.num, .slice m.sa m.t.slots.length m.sc, .slice m.qa m.t.queue.length m.qc, .int .i64 m.t.to]] w (fun v w' => v = .bool (targetOk m.t) ∧ w.grownBy w' none) := by
 refine calls_of_wpf (n := 12) Try.func75 rfl Try.ntmps75 rfl ?_
 have hb0 := World.grownBy.refl w none
 refine wpf_seq_region ?_
 refine wpo_box (v := .agg #[.int .i64 m.t.kind, .int .i64 m.t.lab.s, .int .i64 m.t.lab.v, .int .i64 m.t.ve, .int .i64 m.t.num, .slice m.sa m.t.slots.length m.sc, .slice m.qa m.t.queue.length m.qc, .int .i64 m.t.to]) (cs := #[.int .i64 m.t.kind, .int .i64 m.t.lab.s, .int .i64 m.t.lab.v, .int .i64 m.t.ve, .int .i64 m.t.num, .slice m.sa m.t.slots.length m.sc, .slice m.qa m.t.queue.length m.qc, .int .i64 m.t.to]) rfl rfl rfl ?_
 intro B3594 w3595 hN3596
 have hlB3594 := hN_ge hN3596 hb0
 have hb3597 := low0 hb0 hN3596.grw
 refine wpo_assign (v := .bool false) rfl rfl ?_
 refine wpo_nil ?_
 refine wpf_seq ?_
 refine wpf_seq_region ?_
 refine wpo_fieldAddr (o' := 0) fo_45_0 rfl rfl rfl ?_
 refine wpo_load1 (v := .int .i64 m.t.kind) ot_3 rfl (hN3596.blk.cell rfl) rfl ?_
 refine wpo_eql (q := decide (m.t.kind = 5)) rfl rfl rfl rfl ?_
 refine wpo_nil ?_
 refine wpf_cond rfl (fun h3598 => ?_) (fun h3598 => ?_)
 ·
  have h3599 := of_decide_eq_true h3598
  refine wpf_seq_region ?_
  refine wpo_fieldAddr (o' := 7) fo_45_6 rfl rfl rfl ?_
  refine wpo_load1 (v := .int .i64 m.t.to) ot_3 rfl (hN3596.blk.cell rfl) rfl ?_
  refine wpo_call (vs := [.int .i64 m.t.to, .int .i64 1, .int .i64 8]) gf_69 (args_cons rfl (args_cons rfl (args_cons rfl args_nil))) rfl (inRange_c m.t.to 1 8 _) ?_
  rintro _ w3600 ⟨rfl, hg3601⟩
  have hb3602 := low0 hb3597 hg3601
  refine wpo_assign (v := .bool (inR m.t.to 1 8)) rfl rfl ?_
  refine wpo_nil ?_
  refine wpf_ret ?_
  refine thn_r ?_
  refine ⟨.bool (inR m.t.to 1 8), res1 rfl rfl, ?_, hb3602⟩
  first | (simp [targetOk, h3599]; done) | (simp [targetOk, h3599]; omega) | (simp [targetOk, h3599]; intros; omega)
 ·
  have h3603 := of_decide_eq_false h3598
  refine wpf_skip ?_
  refine thn_n ?_
  refine wpf_seq_region ?_
  refine wpo_fieldAddr (o' := 7) fo_45_6 rfl rfl rfl ?_
  refine wpo_load1 (v := .int .i64 m.t.to) ot_3 rfl (hN3596.blk.cell rfl) rfl ?_
  refine wpo_eql (q := decide (m.t.to = 0)) rfl rfl rfl rfl ?_
  refine wpo_assign (v := .bool (decide (m.t.to = 0))) rfl rfl ?_
  refine wpo_nil ?_
  refine wpf_ret ?_
  refine ⟨.bool (decide (m.t.to = 0)), res1 rfl rfl, ?_, hb3597⟩
  first | (simp [targetOk, h3603]; done) | (simp [targetOk, h3603]; omega) | (simp [targetOk, h3603]; intros; omega)

theorem queueOk_c (m : MTh) (w : World) (hs : SlAt w m.sa 5 (m.t.slots.map Rt.cells)) (hq : SlAt w m.qa 1 (m.t.queue.map icell)) (hsl : m.t.slots.length ≤ 9223372036854775806) (hql : m.t.queue.length ≤ 9223372036854775806) : CallsR Try.prog 74 #[.agg #[.int .i64 m.t.kind, .int .i64 m.t.lab.s, .int .i64 m.t.lab.v, .int .i64 m.t.ve, .int .i64 m.t.num, .slice m.sa m.t.slots.length m.sc, .slice m.qa m.t.queue.length m.qc, .int .i64 m.t.to]] w (fun v w' => v = .bool (queueOk m.t) ∧ w.grownBy w' none) := by
 refine calls_of_wpf (n := 27) Try.func74 rfl Try.ntmps74 rfl ?_
 have hb0 := World.grownBy.refl w none
 refine wpf_seq_region ?_
 refine wpo_box (v := .agg #[.int .i64 m.t.kind, .int .i64 m.t.lab.s, .int .i64 m.t.lab.v, .int .i64 m.t.ve, .int .i64 m.t.num, .slice m.sa m.t.slots.length m.sc, .slice m.qa m.t.queue.length m.qc, .int .i64 m.t.to]) (cs := #[.int .i64 m.t.kind, .int .i64 m.t.lab.s, .int .i64 m.t.lab.v, .int .i64 m.t.ve, .int .i64 m.t.num, .slice m.sa m.t.slots.length m.sc, .slice m.qa m.t.queue.length m.qc, .int .i64 m.t.to]) rfl rfl rfl ?_
 intro B3604 w3605 hN3606
 have hlB3604 := hN_ge hN3606 hb0
 have hb3607 := low0 hb0 hN3606.grw
 refine wpo_assign (v := .bool false) rfl rfl ?_
 refine wpo_nil ?_
 refine wpf_seq ?_
 refine wpf_seq_region ?_
 refine wpo_fieldAddr (o' := 0) fo_45_0 rfl rfl rfl ?_
 refine wpo_load1 (v := .int .i64 m.t.kind) ot_3 rfl (hN3606.blk.cell rfl) rfl ?_
 refine wpo_neq (q := !(decide (m.t.kind = 4))) rfl rfl rfl rfl ?_
 refine wpo_nil ?_
 refine wpf_cond rfl (fun h3608 => ?_) (fun h3608 => ?_)
 ·
  have h3609 := nt_t h3608
  have h3610 := of_decide_eq_false h3609
  refine wpf_seq_region ?_
  refine wpo_fieldAddr (o' := 6) fo_45_5 rfl rfl rfl ?_
  refine wpo_load1 (v := .slice m.qa m.t.queue.length m.qc) ot_43 rfl (hN3606.blk.cell rfl) rfl ?_
  refine wpo_len (by kernel_rfl) rfl rfl ?_
  refine wpo_eql (q := decide ((m.t.queue.length : Int) = 0)) rfl rfl rfl rfl ?_
  refine wpo_assign (v := .bool (decide ((m.t.queue.length : Int) = 0))) rfl rfl ?_
  refine wpo_nil ?_
  refine wpf_ret ?_
  refine thn_r ?_
  refine ⟨.bool (decide ((m.t.queue.length : Int) = 0)), res1 rfl rfl, ?_, hb3607⟩
  first | (simp [queueOk, h3610]; done) | (simp [queueOk, h3610]; omega) | (simp [queueOk, h3610]; intros; omega)
 ·
  have h3611 := nt_f h3608
  have h3612 := of_decide_eq_true h3611
  refine wpf_skip ?_
  refine thn_n ?_
  refine wpf_seq ?_
  refine wpf_seq_region ?_
  refine wpo_fieldAddr (o' := 6) fo_45_5 rfl rfl rfl ?_
  refine wpo_load1 (v := .slice m.qa m.t.queue.length m.qc) ot_43 rfl (hN3606.blk.cell rfl) rfl ?_
  refine wpo_len (by kernel_rfl) rfl rfl ?_
  refine wpo_gtr (q := decide (3 < (m.t.queue.length : Int))) rfl rfl rfl rfl ?_
  refine wpo_nil ?_
  refine wpf_cond rfl (fun h3613 => ?_) (fun h3613 => ?_)
  ·
   have h3614 := of_decide_eq_true h3613
   refine wpf_seq_region ?_
   refine wpo_assign (v := .bool false) rfl rfl ?_
   refine wpo_nil ?_
   refine wpf_ret ?_
   refine thn_r ?_
   refine ⟨.bool false, res1 rfl rfl, ?_, hb3607⟩
   first | (simp [queueOk, h3612, h3614]; done) | (simp [queueOk, h3612, h3614]; omega) | (simp [queueOk, h3612, h3614]; intros; omega)
  ·
   have h3615 := of_decide_eq_false h3613
   refine wpf_skip ?_
   refine thn_n ?_
   refine wpf_seq ?_
   refine wpf_seq_region ?_
   refine wpo_fieldAddr (o' := 6) fo_45_5 rfl rfl rfl ?_
   refine wpo_load1 (v := .slice m.qa m.t.queue.length m.qc) ot_43 rfl (hN3606.blk.cell rfl) rfl ?_
   refine wpo_len (by kernel_rfl) rfl rfl ?_
   refine wpo_move (v := .int .i64 0) rfl rfl ?_
   refine wpo_nil ?_
   refine wpf_block ?_
   refine wpf_loopN (fun mm f' w' => ∃ (k : Nat), mm = m.t.queue.length - k ∧ k ≤ m.t.queue.length ∧ ((m.t.queue.take k).all numQ) = true ∧ f' 19 = .int .i64 (k : Int) ∧ f' 17 = .slice m.qa m.t.queue.length m.qc ∧ f' 18 = .int .i64 (m.t.queue.length : Int) ∧ w.grownBy w' none) (m.t.queue.length - 0) ⟨0, rfl, (Nat.zero_le _), rfl, rfl, rfl, rfl, hb3607⟩ ?_
   rintro mm f3616 w3617 ⟨k, hm3619, hk, ha, e3620, e3621, e3622, hb3618⟩
   refine wpf_seq_region ?_
   refine wpo_lss (q := decide ((k : Int) < (m.t.queue.length : Int))) e3620 e3622 rfl rfl ?_
   refine wpo_nil ?_
   refine wpf_seq ?_
   refine wpf_cond rfl (fun h3623 => ?_) (fun h3623 => ?_)
   ·
    have h3624 := of_decide_eq_true h3623
    refine wpf_skip ?_
    refine thn_n ?_
    refine wpf_seq ?_
    refine wpf_block ?_
    refine wpf_seq_region ?_
    obtain ⟨x3625, hx3626⟩ := get_lt (l := m.t.queue) (i := k) (by omega)
    obtain ⟨b3627, q3628, o3629, ha3630, ho3631, hr3632⟩ := SlAt.at hq (map_get hx3626)
    refine wpo_indexE es_43 e3621 e3620 ha3630 ho3631 (by omega) (by omega) rfl ?_
    refine wpo_load1 (v := .int .i64 x3625) ot_3 rfl ((range_low hr3632 hb3618) 0 _ rfl) rfl ?_
    refine wpo_assign (v := .int .i64 x3625) rfl rfl ?_
    refine wpo_nil ?_
    refine wpf_seq_region ?_
    refine wpo_move (v := .int .i64 x3625) rfl rfl ?_
    refine wpo_call (vs := [.int .i64 x3625, .int .i64 0, .int .i64 99]) gf_69 (args_cons rfl (args_cons rfl (args_cons rfl args_nil))) rfl (inRange_c x3625 0 99 _) ?_
    rintro _ w3633 ⟨rfl, hg3634⟩
    have hb3635 := low0 hb3618 hg3634
    refine wpo_not (b' := !inR x3625 0 99) rfl rfl rfl ?_
    refine wpo_nil ?_
    refine wpf_cond rfl (fun h3636 => ?_) (fun h3636 => ?_)
    ·
     have h3637 := nt_t h3636
     refine wpf_seq_region ?_
     refine wpo_assign (v := .bool false) rfl rfl ?_
     refine wpo_nil ?_
     refine wpf_ret ?_
     refine blk_r ?_
     refine thn_r ?_
     refine thn_r ?_
     refine blk_r ?_
     refine thn_r ?_
     refine ⟨.bool false, res1 rfl rfl, ?_, hb3635⟩
     simp [queueOk, h3612, h3615, h3624, all_false_of (p := numQ) hx3626 h3637]
    ·
     have h3638 := nt_f h3636
     refine wpf_skip ?_
     refine blk_n ?_
     refine thn_n ?_
     refine wpf_region ?_
     refine wpo_add (c := (k : Int) + 1) e3620 rfl (by omega) (by omega) (by omega) rfl ?_
     refine wpo_move (v := .int .i64 ((k : Int) + 1)) rfl rfl ?_
     refine wpo_nil ?_
     refine thn_n ?_
     exact ⟨m.t.queue.length - (k + 1), by omega, (k + 1), rfl, (by omega), (take_all_succ (p := numQ) ha hx3626 h3638), rfl, e3621, e3622, hb3635⟩
   ·
    have h3639 := of_decide_eq_false h3623
    refine wpf_exit ?_
    refine thn_e ?_
    refine thn_e ?_
    refine blk_e ?_
    refine thn_n ?_
    refine wpf_seq_region ?_
    refine wpo_assign (v := .bool true) rfl rfl ?_
    refine wpo_nil ?_
    refine wpf_ret ?_
    refine ⟨.bool true, res1 rfl rfl, ?_, hb3618⟩
    simp [queueOk, h3612, h3615, h3639, all_of_take (p := numQ) ha (by omega)]; omega

theorem slotsOk_c (m : MTh) (w : World) (hs : SlAt w m.sa 5 (m.t.slots.map Rt.cells)) (hq : SlAt w m.qa 1 (m.t.queue.map icell)) (hsl : m.t.slots.length ≤ 9223372036854775806) (hql : m.t.queue.length ≤ 9223372036854775806) : CallsR Try.prog 73 #[.agg #[.int .i64 m.t.kind, .int .i64 m.t.lab.s, .int .i64 m.t.lab.v, .int .i64 m.t.ve, .int .i64 m.t.num, .slice m.sa m.t.slots.length m.sc, .slice m.qa m.t.queue.length m.qc, .int .i64 m.t.to]] w (fun v w' => v = .bool (slotsOk m.t) ∧ w.grownBy w' none) := by
 refine calls_of_wpf (n := 32) Try.func73 rfl Try.ntmps73 rfl ?_
 have hb0 := World.grownBy.refl w none
 refine wpf_seq_region ?_
 refine wpo_box (v := .agg #[.int .i64 m.t.kind, .int .i64 m.t.lab.s, .int .i64 m.t.lab.v, .int .i64 m.t.ve, .int .i64 m.t.num, .slice m.sa m.t.slots.length m.sc, .slice m.qa m.t.queue.length m.qc, .int .i64 m.t.to]) (cs := #[.int .i64 m.t.kind, .int .i64 m.t.lab.s, .int .i64 m.t.lab.v, .int .i64 m.t.ve, .int .i64 m.t.num, .slice m.sa m.t.slots.length m.sc, .slice m.qa m.t.queue.length m.qc, .int .i64 m.t.to]) rfl rfl rfl ?_
 intro B3640 w3641 hN3642
 have hlB3640 := hN_ge hN3642 hb0
 have hb3643 := low0 hb0 hN3642.grw
 refine wpo_assign (v := .bool false) rfl rfl ?_
 refine wpo_nil ?_
 refine wpf_seq ?_
 refine wpf_seq_region_mid (fun f' w' => (f' 1 = .pointer (some ⟨B3640, 0, none⟩) ∧ f' 2 = .bool false ∧ f' 12 = .bool ((!(decide (m.t.kind = 2))) && (!(decide (m.t.kind = 3))))) ∧ w3641 = w') ?_ ?_
 ·
  refine wpo_fieldAddr (o' := 0) fo_45_0 rfl rfl rfl ?_
  refine wpo_load1 (v := .int .i64 m.t.kind) ot_3 rfl (hN3642.blk.cell rfl) rfl ?_
  refine wpo_neq (q := !(decide (m.t.kind = 2))) rfl rfl rfl rfl ?_
  refine wpo_move (v := .bool (!(decide (m.t.kind = 2)))) rfl rfl ?_
  rcases bcases (!(decide (m.t.kind = 2))) with h3644 | h3644
  ·
   have h3645 := nt_t h3644
   have h3646 := of_decide_eq_false h3645
   refine wpo_run rfl rfl rfl h3644 ?_
   refine wpo_fieldAddr (o' := 0) fo_45_0 rfl rfl rfl ?_
   refine wpo_run rfl rfl rfl h3644 ?_
   refine wpo_load1 (v := .int .i64 m.t.kind) ot_3 rfl (hN3642.blk.cell rfl) rfl ?_
   refine wpo_run rfl rfl rfl h3644 ?_
   refine wpo_neq (q := !(decide (m.t.kind = 3))) rfl rfl rfl rfl ?_
   refine wpo_pickt (v := .bool (!(decide (m.t.kind = 3)))) rfl h3644 rfl rfl ?_
   exact wpo_nil ⟨⟨rfl, rfl, (congrArg Value.bool (by first | (simp only [h3644, h3645, b0, b1, b2, b3, b4, b5, b6, b7, b8, b9]; done) | simp [h3644, h3645]))⟩, rfl⟩
  ·
   have h3647 := nt_f h3644
   have h3648 := of_decide_eq_true h3647
   iterate 3 refine wpo_pass rfl rfl rfl h3644 rfl ?_
   refine wpo_pickf (v := .bool false) rfl h3644 rfl rfl ?_
   exact wpo_nil ⟨⟨rfl, rfl, (congrArg Value.bool (by first | (simp only [h3644, h3647, b0, b1, b2, b3, b4, b5, b6, b7, b8, b9]; done) | simp [h3644, h3647]))⟩, rfl⟩
 ·
  rintro f3649 w3650 ⟨⟨e3651, e3652, e3653⟩, rfl⟩
  refine wpf_cond e3653 (fun h3654 => ?_) (fun h3654 => ?_)
  ·
   have h3655 := and_l h3654
   have h3656 := nt_t h3655
   have h3657 := of_decide_eq_false h3656
   have h3658 := and_r h3654
   have h3659 := nt_t h3658
   have h3660 := of_decide_eq_false h3659
   refine wpf_seq_region ?_
   refine wpo_fieldAddr (o' := 5) fo_45_4 e3651 rfl rfl ?_
   refine wpo_load1 (v := .slice m.sa m.t.slots.length m.sc) ot_27 rfl (hN3642.blk.cell rfl) rfl ?_
   refine wpo_len (by kernel_rfl) rfl rfl ?_
   refine wpo_eql (q := decide ((m.t.slots.length : Int) = 0)) rfl rfl rfl rfl ?_
   refine wpo_assign (v := .bool (decide ((m.t.slots.length : Int) = 0))) rfl rfl ?_
   refine wpo_nil ?_
   refine wpf_ret ?_
   refine thn_r ?_
   refine ⟨.bool (decide ((m.t.slots.length : Int) = 0)), res1 rfl rfl, ?_, hb3643⟩
   rw [slotsOk_n h3654]
  ·
   refine wpf_skip ?_
   refine thn_n ?_
   refine wpf_seq ?_
   refine wpf_seq_region ?_
   refine wpo_fieldAddr (o' := 5) fo_45_4 e3651 rfl rfl ?_
   refine wpo_load1 (v := .slice m.sa m.t.slots.length m.sc) ot_27 rfl (hN3642.blk.cell rfl) rfl ?_
   refine wpo_len (by kernel_rfl) rfl rfl ?_
   refine wpo_neq (q := !(decide ((m.t.slots.length : Int) = 4))) rfl rfl rfl rfl ?_
   refine wpo_nil ?_
   refine wpf_cond rfl (fun h3661 => ?_) (fun h3661 => ?_)
   ·
    have h3662 := nt_t h3661
    have h3663 := of_decide_eq_false h3662
    refine wpf_seq_region ?_
    refine wpo_assign (v := .bool false) rfl rfl ?_
    refine wpo_nil ?_
    refine wpf_ret ?_
    refine thn_r ?_
    refine ⟨.bool false, res1 rfl rfl, ?_, hb3643⟩
    rw [slotsOk_y h3654]
    rw [decide_eq_false (by omega)]; rfl
   ·
    have h3664 := nt_f h3661
    have h3665 := of_decide_eq_true h3664
    refine wpf_skip ?_
    refine thn_n ?_
    refine wpf_seq ?_
    refine wpf_seq_region ?_
    refine wpo_fieldAddr (o' := 5) fo_45_4 e3651 rfl rfl ?_
    refine wpo_load1 (v := .slice m.sa m.t.slots.length m.sc) ot_27 rfl (hN3642.blk.cell rfl) rfl ?_
    obtain ⟨b3666, q3667, ha3668, hr3669⟩ := SlAt.all wide_rt (by omega) (SlAt.low hs hb3643) (by omega)
    refine wpo_s2a at_96 rfl ha3668 (by omega) rfl ?_
    refine wpo_loadn (vs := m.t.slots.flatMap Rt.cells) rt_96 rfl (by rw [rows_len wide_rt]; omega) hr3669 rfl ?_
    refine wpo_move (v := .int .i64 0) rfl rfl ?_
    refine wpo_nil ?_
    refine wpf_block ?_
    refine wpf_loopN (fun mm f' w' => ∃ (k : Nat), mm = m.t.slots.length - k ∧ k ≤ m.t.slots.length ∧ ((m.t.slots.take k).all rightOk) = true ∧ f' 25 = .int .i64 (k : Int) ∧ f' 24 = .agg (m.t.slots.flatMap Rt.cells).toArray ∧ w.grownBy w' none) (m.t.slots.length - 0) ⟨0, rfl, (Nat.zero_le _), rfl, rfl, rfl, hb3643⟩ ?_
    rintro mm f3670 w3671 ⟨k, hm3673, hk, ha, e3674, e3675, hb3672⟩
    refine wpf_seq_region ?_
    refine wpo_lss (q := decide ((k : Int) < 4)) e3674 rfl rfl rfl ?_
    refine wpo_nil ?_
    refine wpf_seq ?_
    refine wpf_cond rfl (fun h3676 => ?_) (fun h3676 => ?_)
    ·
     have h3677 := of_decide_eq_true h3676
     refine wpf_skip ?_
     refine thn_n ?_
     refine wpf_seq ?_
     refine wpf_block ?_
     refine wpf_seq_region ?_
     obtain ⟨x3678, hx3679⟩ := get_lt (l := m.t.slots) (i := k) (by omega)
     refine wpo_indexArr (g := Rt.cells) (z := x3678) at_96 rt_29 wide_rt e3675 e3674 (by omega) (by omega) hx3679 rfl ?_
     refine wpo_alloc (cs := #[.int .i64 0, .int .i64 0, .bool false, .bool false, .bool false]) zt_29 rfl rfl ?_
     intro B3680 w3681 hN3682
     have hlB3680 := hN_ge hN3682 hb3672
     have hb3683 := low0 hb3672 hN3682.grw
     refine wpo_storen (vs := [.int .i64 x3678.th, .int .i64 x3678.ve, .bool x3678.rd, .bool x3678.wr, .bool x3678.wk]) (cs' := #[.int .i64 x3678.th, .int .i64 x3678.ve, .bool x3678.rd, .bool x3678.wr, .bool x3678.wk]) rt_29 rfl rfl rfl (by simp [Value.oneCell']) hN3682.blk (Nat.le_of_ble_eq_true rfl) rfl ?_
     intro w3684 hS3685
     have hb3686 := low1 hb3683 hS3685.grw (by omega)
     refine wpo_nil ?_
     refine wpf_seq_region ?_
     refine wpo_loadn (vs := [.int .i64 x3678.th, .int .i64 x3678.ve, .bool x3678.rd, .bool x3678.wr, .bool x3678.wk]) rt_29 rfl rfl (hS3685.blk.rangeL 0 5 rfl) rfl ?_
     refine wpo_call (vs := [.agg #[.int .i64 x3678.th, .int .i64 x3678.ve, .bool x3678.rd, .bool x3678.wr, .bool x3678.wk]]) gf_20 (args_cons rfl args_nil) rfl (RightOk_c x3678 _) ?_
     rintro _ w3687 ⟨rfl, hg3688⟩
     have hb3689 := low0 hb3686 hg3688
     refine wpo_not (b' := !rightOk x3678) rfl rfl rfl ?_
     refine wpo_nil ?_
     refine wpf_cond rfl (fun h3690 => ?_) (fun h3690 => ?_)
     ·
      have h3691 := nt_t h3690
      refine wpf_seq_region ?_
      refine wpo_assign (v := .bool false) rfl rfl ?_
      refine wpo_nil ?_
      refine wpf_ret ?_
      refine blk_r ?_
      refine thn_r ?_
      refine thn_r ?_
      refine blk_r ?_
      refine thn_r ?_
      refine ⟨.bool false, res1 rfl rfl, ?_, hb3689⟩
      rw [slotsOk_y h3654]
      simp [all_false_of (p := rightOk) hx3679 h3691]
     ·
      have h3692 := nt_f h3690
      refine wpf_skip ?_
      refine blk_n ?_
      refine thn_n ?_
      refine wpf_region ?_
      refine wpo_add (c := (k : Int) + 1) e3674 rfl (by omega) (by omega) (by omega) rfl ?_
      refine wpo_move (v := .int .i64 ((k : Int) + 1)) rfl rfl ?_
      refine wpo_nil ?_
      refine thn_n ?_
      exact ⟨m.t.slots.length - (k + 1), by omega, (k + 1), rfl, (by omega), (take_all_succ (p := rightOk) ha hx3679 h3692), rfl, e3675, hb3689⟩
    ·
     have h3693 := of_decide_eq_false h3676
     refine wpf_exit ?_
     refine thn_e ?_
     refine thn_e ?_
     refine blk_e ?_
     refine thn_n ?_
     refine wpf_seq_region ?_
     refine wpo_assign (v := .bool true) rfl rfl ?_
     refine wpo_nil ?_
     refine wpf_ret ?_
     refine ⟨.bool true, res1 rfl rfl, ?_, hb3672⟩
     rw [slotsOk_y h3654]
     rw [all_of_take (p := rightOk) ha (by omega), decide_eq_true (by omega)]; rfl

theorem ThingOk_c (m : MTh) (w : World) (hs : SlAt w m.sa 5 (m.t.slots.map Rt.cells)) (hq : SlAt w m.qa 1 (m.t.queue.map icell)) (hsl : m.t.slots.length ≤ 9223372036854775806) (hql : m.t.queue.length ≤ 9223372036854775806) : CallsR Try.prog 26 #[.agg #[.int .i64 m.t.kind, .int .i64 m.t.lab.s, .int .i64 m.t.lab.v, .int .i64 m.t.ve, .int .i64 m.t.num, .slice m.sa m.t.slots.length m.sc, .slice m.qa m.t.queue.length m.qc, .int .i64 m.t.to]] w (fun v w' => v = .bool (thingOk m.t) ∧ w.grownBy w' none) := by
 refine calls_of_wpf (n := 31) Try.func26 rfl Try.ntmps26 rfl ?_
 have hb0 := World.grownBy.refl w none
 refine wpf_seq_region ?_
 refine wpo_box (v := .agg #[.int .i64 m.t.kind, .int .i64 m.t.lab.s, .int .i64 m.t.lab.v, .int .i64 m.t.ve, .int .i64 m.t.num, .slice m.sa m.t.slots.length m.sc, .slice m.qa m.t.queue.length m.qc, .int .i64 m.t.to]) (cs := #[.int .i64 m.t.kind, .int .i64 m.t.lab.s, .int .i64 m.t.lab.v, .int .i64 m.t.ve, .int .i64 m.t.num, .slice m.sa m.t.slots.length m.sc, .slice m.qa m.t.queue.length m.qc, .int .i64 m.t.to]) rfl rfl rfl ?_
 intro B3694 w3695 hN3696
 have hlB3694 := hN_ge hN3696 hb0
 have hb3697 := low0 hb0 hN3696.grw
 refine wpo_assign (v := .bool false) rfl rfl ?_
 refine wpo_nil ?_
 refine wpf_seq_region_mid (fun f' w' => (f' 2 = .bool ((((((inR m.t.kind 1 5 && labelOk m.t.lab) && versOk m.t) && numOk m.t) && slotsOk m.t) && queueOk m.t) && targetOk m.t)) ∧ w3695.grownBy w' none) ?_ ?_
 ·
  refine wpo_fieldAddr (o' := 0) fo_45_0 rfl rfl rfl ?_
  refine wpo_load1 (v := .int .i64 m.t.kind) ot_3 rfl (hN3696.blk.cell rfl) rfl ?_
  refine wpo_call (vs := [.int .i64 m.t.kind, .int .i64 1, .int .i64 5]) gf_69 (args_cons rfl (args_cons rfl (args_cons rfl args_nil))) rfl (inRange_c m.t.kind 1 5 _) ?_
  rintro _ w3728 ⟨rfl, hg3729⟩
  have hb3730 := low0 hb3697 hg3729
  refine wpo_move (v := .bool (inR m.t.kind 1 5)) rfl rfl ?_
  rcases bcases (inR m.t.kind 1 5) with h3731 | h3731
  ·
   refine wpo_run rfl rfl rfl h3731 ?_
   refine wpo_fieldAddr (o' := 1) fo_45_1 rfl rfl rfl ?_
   refine wpo_run rfl rfl rfl h3731 ?_
   have k3732 := (hN3696.blk.grown0 hg3729)
   refine wpo_loadn (vs := [.int .i64 m.t.lab.s, .int .i64 m.t.lab.v]) rt_40 rfl rfl (k3732.rangeL 1 2 rfl) rfl ?_
   refine wpo_run rfl rfl rfl h3731 ?_
   refine wpo_call (vs := [.agg #[.int .i64 m.t.lab.s, .int .i64 m.t.lab.v]]) gf_70 (args_cons rfl args_nil) rfl (LabelOk_c m.t.lab _) ?_
   rintro _ w3733 ⟨rfl, hg3734⟩
   have hb3735 := low0 hb3730 hg3734
   refine wpo_pickt (v := .bool (labelOk m.t.lab)) rfl h3731 rfl rfl ?_
   refine wpo_move (v := .bool (labelOk m.t.lab)) rfl rfl ?_
   rcases bcases (labelOk m.t.lab) with h3736 | h3736
   ·
    refine wpo_run rfl rfl rfl h3736 ?_
    have k3737 := (k3732.grown0 hg3734)
    refine wpo_loadn (vs := [.int .i64 m.t.kind, .int .i64 m.t.lab.s, .int .i64 m.t.lab.v, .int .i64 m.t.ve, .int .i64 m.t.num, .slice m.sa m.t.slots.length m.sc, .slice m.qa m.t.queue.length m.qc, .int .i64 m.t.to]) rt_45 rfl rfl (k3737.rangeL 0 8 rfl) rfl ?_
    refine wpo_run rfl rfl rfl h3736 ?_
    refine wpo_call (vs := [.agg #[.int .i64 m.t.kind, .int .i64 m.t.lab.s, .int .i64 m.t.lab.v, .int .i64 m.t.ve, .int .i64 m.t.num, .slice m.sa m.t.slots.length m.sc, .slice m.qa m.t.queue.length m.qc, .int .i64 m.t.to]]) gf_71 (args_cons rfl args_nil) rfl (versOk_c m _) ?_
    rintro _ w3738 ⟨rfl, hg3739⟩
    have hb3740 := low0 hb3735 hg3739
    refine wpo_pickt (v := .bool (versOk m.t)) rfl h3736 rfl rfl ?_
    refine wpo_move (v := .bool (versOk m.t)) rfl rfl ?_
    rcases bcases (versOk m.t) with h3741 | h3741
    ·
     refine wpo_run rfl rfl rfl h3741 ?_
     have k3742 := (k3737.grown0 hg3739)
     refine wpo_loadn (vs := [.int .i64 m.t.kind, .int .i64 m.t.lab.s, .int .i64 m.t.lab.v, .int .i64 m.t.ve, .int .i64 m.t.num, .slice m.sa m.t.slots.length m.sc, .slice m.qa m.t.queue.length m.qc, .int .i64 m.t.to]) rt_45 rfl rfl (k3742.rangeL 0 8 rfl) rfl ?_
     refine wpo_run rfl rfl rfl h3741 ?_
     refine wpo_call (vs := [.agg #[.int .i64 m.t.kind, .int .i64 m.t.lab.s, .int .i64 m.t.lab.v, .int .i64 m.t.ve, .int .i64 m.t.num, .slice m.sa m.t.slots.length m.sc, .slice m.qa m.t.queue.length m.qc, .int .i64 m.t.to]]) gf_72 (args_cons rfl args_nil) rfl (numOk_c m _) ?_
     rintro _ w3743 ⟨rfl, hg3744⟩
     have hb3745 := low0 hb3740 hg3744
     refine wpo_pickt (v := .bool (numOk m.t)) rfl h3741 rfl rfl ?_
     refine wpo_move (v := .bool (numOk m.t)) rfl rfl ?_
     rcases bcases (numOk m.t) with h3746 | h3746
     ·
      refine wpo_run rfl rfl rfl h3746 ?_
      have k3747 := (k3742.grown0 hg3744)
      refine wpo_loadn (vs := [.int .i64 m.t.kind, .int .i64 m.t.lab.s, .int .i64 m.t.lab.v, .int .i64 m.t.ve, .int .i64 m.t.num, .slice m.sa m.t.slots.length m.sc, .slice m.qa m.t.queue.length m.qc, .int .i64 m.t.to]) rt_45 rfl rfl (k3747.rangeL 0 8 rfl) rfl ?_
      refine wpo_run rfl rfl rfl h3746 ?_
      refine wpo_call (vs := [.agg #[.int .i64 m.t.kind, .int .i64 m.t.lab.s, .int .i64 m.t.lab.v, .int .i64 m.t.ve, .int .i64 m.t.num, .slice m.sa m.t.slots.length m.sc, .slice m.qa m.t.queue.length m.qc, .int .i64 m.t.to]]) gf_73 (args_cons rfl args_nil) rfl (slotsOk_c m _ (SlAt.low hs hb3745) (SlAt.low hq hb3745) (by first | omega | exact Nat.le_of_ble_eq_true rfl | (simp only [List.length_nil, List.length_cons, List.length_append, List.length_replicate]; omega)) (by first | omega | exact Nat.le_of_ble_eq_true rfl | (simp only [List.length_nil, List.length_cons, List.length_append, List.length_replicate]; omega))) ?_
      rintro _ w3748 ⟨rfl, hg3749⟩
      have hb3750 := low0 hb3745 hg3749
      refine wpo_pickt (v := .bool (slotsOk m.t)) rfl h3746 rfl rfl ?_
      refine wpo_move (v := .bool (slotsOk m.t)) rfl rfl ?_
      rcases bcases (slotsOk m.t) with h3751 | h3751
      ·
       refine wpo_run rfl rfl rfl h3751 ?_
       have k3752 := (k3747.grown0 hg3749)
       refine wpo_loadn (vs := [.int .i64 m.t.kind, .int .i64 m.t.lab.s, .int .i64 m.t.lab.v, .int .i64 m.t.ve, .int .i64 m.t.num, .slice m.sa m.t.slots.length m.sc, .slice m.qa m.t.queue.length m.qc, .int .i64 m.t.to]) rt_45 rfl rfl (k3752.rangeL 0 8 rfl) rfl ?_
       refine wpo_run rfl rfl rfl h3751 ?_
       refine wpo_call (vs := [.agg #[.int .i64 m.t.kind, .int .i64 m.t.lab.s, .int .i64 m.t.lab.v, .int .i64 m.t.ve, .int .i64 m.t.num, .slice m.sa m.t.slots.length m.sc, .slice m.qa m.t.queue.length m.qc, .int .i64 m.t.to]]) gf_74 (args_cons rfl args_nil) rfl (queueOk_c m _ (SlAt.low hs hb3750) (SlAt.low hq hb3750) (by first | omega | exact Nat.le_of_ble_eq_true rfl | (simp only [List.length_nil, List.length_cons, List.length_append, List.length_replicate]; omega)) (by first | omega | exact Nat.le_of_ble_eq_true rfl | (simp only [List.length_nil, List.length_cons, List.length_append, List.length_replicate]; omega))) ?_
       rintro _ w3753 ⟨rfl, hg3754⟩
       have hb3755 := low0 hb3750 hg3754
       refine wpo_pickt (v := .bool (queueOk m.t)) rfl h3751 rfl rfl ?_
       refine wpo_move (v := .bool (queueOk m.t)) rfl rfl ?_
       rcases bcases (queueOk m.t) with h3756 | h3756
       ·
        refine wpo_run rfl rfl rfl h3756 ?_
        have k3757 := (k3752.grown0 hg3754)
        refine wpo_loadn (vs := [.int .i64 m.t.kind, .int .i64 m.t.lab.s, .int .i64 m.t.lab.v, .int .i64 m.t.ve, .int .i64 m.t.num, .slice m.sa m.t.slots.length m.sc, .slice m.qa m.t.queue.length m.qc, .int .i64 m.t.to]) rt_45 rfl rfl (k3757.rangeL 0 8 rfl) rfl ?_
        refine wpo_run rfl rfl rfl h3756 ?_
        refine wpo_call (vs := [.agg #[.int .i64 m.t.kind, .int .i64 m.t.lab.s, .int .i64 m.t.lab.v, .int .i64 m.t.ve, .int .i64 m.t.num, .slice m.sa m.t.slots.length m.sc, .slice m.qa m.t.queue.length m.qc, .int .i64 m.t.to]]) gf_75 (args_cons rfl args_nil) rfl (targetOk_c m _) ?_
        rintro _ w3758 ⟨rfl, hg3759⟩
        have hb3760 := low0 hb3755 hg3759
        refine wpo_pickt (v := .bool (targetOk m.t)) rfl h3756 rfl rfl ?_
        refine wpo_assign (v := .bool (targetOk m.t)) rfl rfl ?_
        exact wpo_nil ⟨(congrArg Value.bool (by first | (simp only [h3731, h3736, h3741, h3746, h3751, h3756, b0, b1, b2, b3, b4, b5, b6, b7, b8, b9]; done) | simp [h3731, h3736, h3741, h3746, h3751, h3756])), (grown_trans (grown_trans (grown_trans (grown_trans (grown_trans (grown_trans hg3729 hg3734) hg3739) hg3744) hg3749) hg3754) hg3759)⟩
       ·
        refine wpo_pass rfl rfl rfl h3756 rfl ?_
        refine wpo_pass rfl rfl rfl h3756 rfl ?_
        refine wpo_pickf (v := .bool false) rfl h3756 rfl rfl ?_
        refine wpo_assign (v := .bool false) rfl rfl ?_
        exact wpo_nil ⟨(congrArg Value.bool (by first | (simp only [h3731, h3736, h3741, h3746, h3751, h3756, b0, b1, b2, b3, b4, b5, b6, b7, b8, b9]; done) | simp [h3731, h3736, h3741, h3746, h3751, h3756])), (grown_trans (grown_trans (grown_trans (grown_trans (grown_trans hg3729 hg3734) hg3739) hg3744) hg3749) hg3754)⟩
      ·
       refine wpo_pass rfl rfl rfl h3751 rfl ?_
       refine wpo_pass rfl rfl rfl h3751 rfl ?_
       refine wpo_pickf (v := .bool false) rfl h3751 rfl rfl ?_
       refine wpo_move (v := .bool false) rfl rfl ?_
       refine wpo_pass rfl rfl rfl rfl rfl ?_
       refine wpo_pass rfl rfl rfl rfl rfl ?_
       refine wpo_pickf (v := .bool false) rfl rfl rfl rfl ?_
       refine wpo_assign (v := .bool false) rfl rfl ?_
       exact wpo_nil ⟨(congrArg Value.bool (by first | (simp only [h3731, h3736, h3741, h3746, h3751, b0, b1, b2, b3, b4, b5, b6, b7, b8, b9]; done) | simp [h3731, h3736, h3741, h3746, h3751])), (grown_trans (grown_trans (grown_trans (grown_trans hg3729 hg3734) hg3739) hg3744) hg3749)⟩
     ·
      refine wpo_pass rfl rfl rfl h3746 rfl ?_
      refine wpo_pass rfl rfl rfl h3746 rfl ?_
      refine wpo_pickf (v := .bool false) rfl h3746 rfl rfl ?_
      refine wpo_move (v := .bool false) rfl rfl ?_
      refine wpo_pass rfl rfl rfl rfl rfl ?_
      refine wpo_pass rfl rfl rfl rfl rfl ?_
      refine wpo_pickf (v := .bool false) rfl rfl rfl rfl ?_
      refine wpo_move (v := .bool false) rfl rfl ?_
      refine wpo_pass rfl rfl rfl rfl rfl ?_
      refine wpo_pass rfl rfl rfl rfl rfl ?_
      refine wpo_pickf (v := .bool false) rfl rfl rfl rfl ?_
      refine wpo_assign (v := .bool false) rfl rfl ?_
      exact wpo_nil ⟨(congrArg Value.bool (by first | (simp only [h3731, h3736, h3741, h3746, b0, b1, b2, b3, b4, b5, b6, b7, b8, b9]; done) | simp [h3731, h3736, h3741, h3746])), (grown_trans (grown_trans (grown_trans hg3729 hg3734) hg3739) hg3744)⟩
    ·
     refine wpo_pass rfl rfl rfl h3741 rfl ?_
     refine wpo_pass rfl rfl rfl h3741 rfl ?_
     refine wpo_pickf (v := .bool false) rfl h3741 rfl rfl ?_
     refine wpo_move (v := .bool false) rfl rfl ?_
     refine wpo_pass rfl rfl rfl rfl rfl ?_
     refine wpo_pass rfl rfl rfl rfl rfl ?_
     refine wpo_pickf (v := .bool false) rfl rfl rfl rfl ?_
     refine wpo_move (v := .bool false) rfl rfl ?_
     refine wpo_pass rfl rfl rfl rfl rfl ?_
     refine wpo_pass rfl rfl rfl rfl rfl ?_
     refine wpo_pickf (v := .bool false) rfl rfl rfl rfl ?_
     refine wpo_move (v := .bool false) rfl rfl ?_
     refine wpo_pass rfl rfl rfl rfl rfl ?_
     refine wpo_pass rfl rfl rfl rfl rfl ?_
     refine wpo_pickf (v := .bool false) rfl rfl rfl rfl ?_
     refine wpo_assign (v := .bool false) rfl rfl ?_
     exact wpo_nil ⟨(congrArg Value.bool (by first | (simp only [h3731, h3736, h3741, b0, b1, b2, b3, b4, b5, b6, b7, b8, b9]; done) | simp [h3731, h3736, h3741])), (grown_trans (grown_trans hg3729 hg3734) hg3739)⟩
   ·
    refine wpo_pass rfl rfl rfl h3736 rfl ?_
    refine wpo_pass rfl rfl rfl h3736 rfl ?_
    refine wpo_pickf (v := .bool false) rfl h3736 rfl rfl ?_
    refine wpo_move (v := .bool false) rfl rfl ?_
    refine wpo_pass rfl rfl rfl rfl rfl ?_
    refine wpo_pass rfl rfl rfl rfl rfl ?_
    refine wpo_pickf (v := .bool false) rfl rfl rfl rfl ?_
    refine wpo_move (v := .bool false) rfl rfl ?_
    refine wpo_pass rfl rfl rfl rfl rfl ?_
    refine wpo_pass rfl rfl rfl rfl rfl ?_
    refine wpo_pickf (v := .bool false) rfl rfl rfl rfl ?_
    refine wpo_move (v := .bool false) rfl rfl ?_
    refine wpo_pass rfl rfl rfl rfl rfl ?_
    refine wpo_pass rfl rfl rfl rfl rfl ?_
    refine wpo_pickf (v := .bool false) rfl rfl rfl rfl ?_
    refine wpo_move (v := .bool false) rfl rfl ?_
    refine wpo_pass rfl rfl rfl rfl rfl ?_
    refine wpo_pass rfl rfl rfl rfl rfl ?_
    refine wpo_pickf (v := .bool false) rfl rfl rfl rfl ?_
    refine wpo_assign (v := .bool false) rfl rfl ?_
    exact wpo_nil ⟨(congrArg Value.bool (by first | (simp only [h3731, h3736, b0, b1, b2, b3, b4, b5, b6, b7, b8, b9]; done) | simp [h3731, h3736])), (grown_trans hg3729 hg3734)⟩
  ·
   iterate 3 refine wpo_pass rfl rfl rfl h3731 rfl ?_
   refine wpo_pickf (v := .bool false) rfl h3731 rfl rfl ?_
   refine wpo_move (v := .bool false) rfl rfl ?_
   refine wpo_pass rfl rfl rfl rfl rfl ?_
   refine wpo_pass rfl rfl rfl rfl rfl ?_
   refine wpo_pickf (v := .bool false) rfl rfl rfl rfl ?_
   refine wpo_move (v := .bool false) rfl rfl ?_
   refine wpo_pass rfl rfl rfl rfl rfl ?_
   refine wpo_pass rfl rfl rfl rfl rfl ?_
   refine wpo_pickf (v := .bool false) rfl rfl rfl rfl ?_
   refine wpo_move (v := .bool false) rfl rfl ?_
   refine wpo_pass rfl rfl rfl rfl rfl ?_
   refine wpo_pass rfl rfl rfl rfl rfl ?_
   refine wpo_pickf (v := .bool false) rfl rfl rfl rfl ?_
   refine wpo_move (v := .bool false) rfl rfl ?_
   refine wpo_pass rfl rfl rfl rfl rfl ?_
   refine wpo_pass rfl rfl rfl rfl rfl ?_
   refine wpo_pickf (v := .bool false) rfl rfl rfl rfl ?_
   refine wpo_move (v := .bool false) rfl rfl ?_
   refine wpo_pass rfl rfl rfl rfl rfl ?_
   refine wpo_pass rfl rfl rfl rfl rfl ?_
   refine wpo_pickf (v := .bool false) rfl rfl rfl rfl ?_
   refine wpo_assign (v := .bool false) rfl rfl ?_
   exact wpo_nil ⟨(congrArg Value.bool (by first | (simp only [h3731, b0, b1, b2, b3, b4, b5, b6, b7, b8, b9]; done) | simp [h3731])), hg3729⟩
 ·
  rintro f3761 w3762 ⟨e3763, hg3764⟩
  have hb3765 := low0 hb3697 hg3764
  refine wpf_ret ?_
  refine ⟨.bool ((((((inR m.t.kind 1 5 && labelOk m.t.lab) && versOk m.t) && numOk m.t) && slotsOk m.t) && queueOk m.t) && targetOk m.t), res1 rfl e3763, ?_, hb3765⟩
  rfl

theorem l3Slots_c (n : Int) (w : World) : CallsR Try.prog 66 #[.int .i64 n] w (fun v w' => v = .bool (decide (n = 2) || decide (n = 3)) ∧ w.grownBy w' none) := by
 refine calls_of_wpf (n := 9) Try.func66 rfl Try.ntmps66 rfl ?_
 have hb0 := World.grownBy.refl w none
 refine wpf_seq_region ?_
 refine wpo_assign (v := .bool false) rfl rfl ?_
 refine wpo_nil ?_
 refine wpf_seq_region_mid (fun f' w' => (f' 2 = .bool ((decide (n = 2)) || (decide (n = 3)))) ∧ w = w') ?_ ?_
 ·
  refine wpo_move (v := .int .i64 n) rfl rfl ?_
  refine wpo_eql (q := decide (n = 2)) rfl rfl rfl rfl ?_
  refine wpo_move (v := .bool (decide (n = 2))) rfl rfl ?_
  rcases bcases (decide (n = 2)) with h3766 | h3766
  ·
   have h3767 := of_decide_eq_true h3766
   refine wpo_pass rfl rfl rfl h3766 rfl ?_
   refine wpo_pass rfl rfl rfl h3766 rfl ?_
   refine wpo_pickt (v := .bool true) rfl h3766 rfl rfl ?_
   refine wpo_assign (v := .bool true) rfl rfl ?_
   exact wpo_nil ⟨(congrArg Value.bool (by first | (simp only [h3766, b0, b1, b2, b3, b4, b5, b6, b7, b8, b9]; done) | simp [h3766])), rfl⟩
  ·
   have h3768 := of_decide_eq_false h3766
   refine wpo_run rfl rfl rfl h3766 ?_
   refine wpo_move (v := .int .i64 n) rfl rfl ?_
   refine wpo_run rfl rfl rfl h3766 ?_
   refine wpo_eql (q := decide (n = 3)) rfl rfl rfl rfl ?_
   refine wpo_pickf (v := .bool (decide (n = 3))) rfl h3766 rfl rfl ?_
   refine wpo_assign (v := .bool (decide (n = 3))) rfl rfl ?_
   exact wpo_nil ⟨(congrArg Value.bool (by first | (simp only [h3766, b0, b1, b2, b3, b4, b5, b6, b7, b8, b9]; done) | simp [h3766])), rfl⟩
 ·
  rintro f3769 w3770 ⟨e3771, rfl⟩
  refine wpf_ret ?_
  refine ⟨.bool ((decide (n = 2)) || (decide (n = 3))), res1 rfl e3771, ?_, hb0⟩
  rfl

theorem sThingOk_c (m : MTh) (w : World) (hs : SlAt w m.sa 5 (m.t.slots.map Rt.cells)) (hq : SlAt w m.qa 1 (m.t.queue.map icell)) (hsl : m.t.slots.length ≤ 9223372036854775806) (hql : m.t.queue.length ≤ 9223372036854775806) : CallsR Try.prog 67 #[.agg #[.int .i64 m.t.kind, .int .i64 m.t.lab.s, .int .i64 m.t.lab.v, .int .i64 m.t.ve, .int .i64 m.t.num, .slice m.sa m.t.slots.length m.sc, .slice m.qa m.t.queue.length m.qc, .int .i64 m.t.to]] w (fun v w' => v = .bool (thingOk m.t) ∧ w.grownBy w' none) := by
 refine calls_of_wpf (n := 144) Try.func67 rfl Try.ntmps67 rfl ?_
 have hb0 := World.grownBy.refl w none
 refine wpf_seq_region ?_
 refine wpo_box (v := .agg #[.int .i64 m.t.kind, .int .i64 m.t.lab.s, .int .i64 m.t.lab.v, .int .i64 m.t.ve, .int .i64 m.t.num, .slice m.sa m.t.slots.length m.sc, .slice m.qa m.t.queue.length m.qc, .int .i64 m.t.to]) (cs := #[.int .i64 m.t.kind, .int .i64 m.t.lab.s, .int .i64 m.t.lab.v, .int .i64 m.t.ve, .int .i64 m.t.num, .slice m.sa m.t.slots.length m.sc, .slice m.qa m.t.queue.length m.qc, .int .i64 m.t.to]) rfl rfl rfl ?_
 intro B3772 w3773 hN3774
 have hlB3772 := hN_ge hN3774 hb0
 have hb3775 := low0 hb0 hN3774.grw
 refine wpo_assign (v := .bool false) rfl rfl ?_
 refine wpo_nil ?_
 refine wpf_seq ?_
 refine wpf_seq_region_mid (fun f' w' => (f' 1 = .pointer (some ⟨B3772, 0, none⟩) ∧ f' 2 = .bool false ∧ f' 27 = .bool ((((!inR m.t.kind 1 5) || (!labelOk m.t.lab)) || (!inR m.t.ve 0 5)) || (decide (3 < (m.t.queue.length : Int))))) ∧ w3773.grownBy w' none) ?_ ?_
 ·
  refine wpo_fieldAddr (o' := 0) fo_45_0 rfl rfl rfl ?_
  refine wpo_load1 (v := .int .i64 m.t.kind) ot_3 rfl (hN3774.blk.cell rfl) rfl ?_
  refine wpo_call (vs := [.int .i64 m.t.kind, .int .i64 1, .int .i64 5]) gf_85 (args_cons rfl (args_cons rfl (args_cons rfl args_nil))) rfl (l6In_c m.t.kind 1 5 _) ?_
  rintro _ w3791 ⟨rfl, hg3792⟩
  have hb3793 := low0 hb3775 hg3792
  refine wpo_not (b' := !inR m.t.kind 1 5) rfl rfl rfl ?_
  refine wpo_move (v := .bool (!inR m.t.kind 1 5)) rfl rfl ?_
  rcases bcases (!inR m.t.kind 1 5) with h3794 | h3794
  ·
   have h3795 := nt_t h3794
   iterate 4 refine wpo_pass rfl rfl rfl h3794 rfl ?_
   refine wpo_pickt (v := .bool true) rfl h3794 rfl rfl ?_
   refine wpo_move (v := .bool true) rfl rfl ?_
   iterate 4 refine wpo_pass rfl rfl rfl rfl rfl ?_
   refine wpo_pickt (v := .bool true) rfl rfl rfl rfl ?_
   refine wpo_move (v := .bool true) rfl rfl ?_
   iterate 4 refine wpo_pass rfl rfl rfl rfl rfl ?_
   refine wpo_pickt (v := .bool true) rfl rfl rfl rfl ?_
   exact wpo_nil ⟨⟨rfl, rfl, (congrArg Value.bool (by first | (simp only [h3794, h3795, b0, b1, b2, b3, b4, b5, b6, b7, b8, b9]; done) | simp [h3794, h3795]))⟩, hg3792⟩
  ·
   have h3796 := nt_f h3794
   refine wpo_run rfl rfl rfl h3794 ?_
   refine wpo_fieldAddr (o' := 1) fo_45_1 rfl rfl rfl ?_
   refine wpo_run rfl rfl rfl h3794 ?_
   have k3797 := (hN3774.blk.grown0 hg3792)
   refine wpo_loadn (vs := [.int .i64 m.t.lab.s, .int .i64 m.t.lab.v]) rt_40 rfl rfl (k3797.rangeL 1 2 rfl) rfl ?_
   refine wpo_run rfl rfl rfl h3794 ?_
   refine wpo_call (vs := [.agg #[.int .i64 m.t.lab.s, .int .i64 m.t.lab.v]]) gf_35 (args_cons rfl args_nil) rfl (sLabelOk_c m.t.lab _) ?_
   rintro _ w3798 ⟨rfl, hg3799⟩
   have hb3800 := low0 hb3793 hg3799
   refine wpo_run rfl rfl rfl h3794 ?_
   refine wpo_not (b' := !labelOk m.t.lab) rfl rfl rfl ?_
   refine wpo_pickf (v := .bool (!labelOk m.t.lab)) rfl h3794 rfl rfl ?_
   refine wpo_move (v := .bool (!labelOk m.t.lab)) rfl rfl ?_
   rcases bcases (!labelOk m.t.lab) with h3801 | h3801
   ·
    have h3802 := nt_t h3801
    iterate 4 refine wpo_pass rfl rfl rfl h3801 rfl ?_
    refine wpo_pickt (v := .bool true) rfl h3801 rfl rfl ?_
    refine wpo_move (v := .bool true) rfl rfl ?_
    iterate 4 refine wpo_pass rfl rfl rfl rfl rfl ?_
    refine wpo_pickt (v := .bool true) rfl rfl rfl rfl ?_
    exact wpo_nil ⟨⟨rfl, rfl, (congrArg Value.bool (by first | (simp only [h3794, h3796, h3801, h3802, b0, b1, b2, b3, b4, b5, b6, b7, b8, b9]; done) | simp [h3794, h3796, h3801, h3802]))⟩, (grown_trans hg3792 hg3799)⟩
   ·
    have h3803 := nt_f h3801
    refine wpo_run rfl rfl rfl h3801 ?_
    refine wpo_fieldAddr (o' := 3) fo_45_2 rfl rfl rfl ?_
    refine wpo_run rfl rfl rfl h3801 ?_
    have k3804 := (k3797.grown0 hg3799)
    refine wpo_load1 (v := .int .i64 m.t.ve) ot_3 rfl (k3804.cell rfl) rfl ?_
    refine wpo_run rfl rfl rfl h3801 ?_
    refine wpo_call (vs := [.int .i64 m.t.ve, .int .i64 0, .int .i64 5]) gf_85 (args_cons rfl (args_cons rfl (args_cons rfl args_nil))) rfl (l6In_c m.t.ve 0 5 _) ?_
    rintro _ w3805 ⟨rfl, hg3806⟩
    have hb3807 := low0 hb3800 hg3806
    refine wpo_run rfl rfl rfl h3801 ?_
    refine wpo_not (b' := !inR m.t.ve 0 5) rfl rfl rfl ?_
    refine wpo_pickf (v := .bool (!inR m.t.ve 0 5)) rfl h3801 rfl rfl ?_
    refine wpo_move (v := .bool (!inR m.t.ve 0 5)) rfl rfl ?_
    rcases bcases (!inR m.t.ve 0 5) with h3808 | h3808
    ·
     have h3809 := nt_t h3808
     iterate 4 refine wpo_pass rfl rfl rfl h3808 rfl ?_
     refine wpo_pickt (v := .bool true) rfl h3808 rfl rfl ?_
     exact wpo_nil ⟨⟨rfl, rfl, (congrArg Value.bool (by first | (simp only [h3794, h3796, h3801, h3803, h3808, h3809, b0, b1, b2, b3, b4, b5, b6, b7, b8, b9]; done) | simp [h3794, h3796, h3801, h3803, h3808, h3809]))⟩, (grown_trans (grown_trans hg3792 hg3799) hg3806)⟩
    ·
     have h3810 := nt_f h3808
     refine wpo_run rfl rfl rfl h3808 ?_
     refine wpo_fieldAddr (o' := 6) fo_45_5 rfl rfl rfl ?_
     refine wpo_run rfl rfl rfl h3808 ?_
     have k3811 := (k3804.grown0 hg3806)
     refine wpo_load1 (v := .slice m.qa m.t.queue.length m.qc) ot_43 rfl (k3811.cell rfl) rfl ?_
     refine wpo_run rfl rfl rfl h3808 ?_
     refine wpo_len (by kernel_rfl) rfl rfl ?_
     refine wpo_run rfl rfl rfl h3808 ?_
     refine wpo_gtr (q := decide (3 < (m.t.queue.length : Int))) rfl rfl rfl rfl ?_
     refine wpo_pickf (v := .bool (decide (3 < (m.t.queue.length : Int)))) rfl h3808 rfl rfl ?_
     exact wpo_nil ⟨⟨rfl, rfl, (congrArg Value.bool (by first | (simp only [h3794, h3796, h3801, h3803, h3808, h3810, b0, b1, b2, b3, b4, b5, b6, b7, b8, b9]; done) | simp [h3794, h3796, h3801, h3803, h3808, h3810]))⟩, (grown_trans (grown_trans hg3792 hg3799) hg3806)⟩
 ·
  rintro f3812 w3813 ⟨⟨e3814, e3815, e3816⟩, hg3817⟩
  have hb3818 := low0 hb3775 hg3817
  refine wpf_cond e3816 (fun h3819 => ?_) (fun h3819 => ?_)
  ·
   refine wpf_seq_region ?_
   refine wpo_assign (v := .bool false) rfl rfl ?_
   refine wpo_nil ?_
   refine wpf_ret ?_
   refine thn_r ?_
   refine ⟨.bool false, res1 rfl rfl, ?_, hb3818⟩
   exact congrArg Value.bool (th_a h3819)
  ·
   have h3820 := or_l h3819
   have h3821 := or_l h3820
   have h3822 := or_l h3821
   have h3823 := nt_f h3822
   have h3824 := or_r h3821
   have h3825 := nt_f h3824
   have h3826 := or_r h3820
   have h3827 := nt_f h3826
   have h3828 := or_r h3819
   have h3829 := of_decide_eq_false h3828
   refine wpf_skip ?_
   refine thn_n ?_
   refine wpf_seq_region ?_
   refine wpo_assign (v := .int .i64 0) rfl rfl ?_
   refine wpo_nil ?_
   refine wpf_seq ?_
   refine wpf_seq_region ?_
   refine wpo_fieldAddr (o' := 0) fo_45_0 e3814 rfl rfl ?_
   have k3830 := (hN3774.blk.grown0 hg3817)
   refine wpo_load1 (v := .int .i64 m.t.kind) ot_3 rfl (k3830.cell rfl) rfl ?_
   refine wpo_eql (q := decide (m.t.kind = 3)) rfl rfl rfl rfl ?_
   refine wpo_nil ?_
   refine wpf_mid (fun f' w' => (f' 1 = .pointer (some ⟨B3772, 0, none⟩) ∧ f' 2 = .bool false ∧ f' 3 = .int .i64 (if m.t.kind = 3 then (-4) else 0)) ∧ w3813 = w') ?_ ?_
   ·
    refine wpf_cond rfl (fun h3831 => ?_) (fun h3831 => ?_)
    ·
     have h3832 := of_decide_eq_true h3831
     refine wpf_region ?_
     refine wpo_assign (v := .int .i64 (-4)) rfl rfl ?_
     refine wpo_nil ?_
     refine thn_n ?_
     exact ⟨⟨e3814, e3815, (congrArg (Value.int .i64) (if_pos (of_decide_eq_true h3831)).symm)⟩, rfl⟩
    ·
     have h3833 := of_decide_eq_false h3831
     refine wpf_skip ?_
     refine thn_n ?_
     exact ⟨⟨e3814, e3815, (congrArg (Value.int .i64) (if_neg (of_decide_eq_false h3831)).symm)⟩, rfl⟩
   ·
    rintro f3834 _ ⟨⟨e3836, e3837, e3838⟩, rfl⟩
    refine thn_n ?_
    refine wpf_seq ?_
    refine wpf_seq_region_mid (fun f' w' => (f' 1 = .pointer (some ⟨B3772, 0, none⟩) ∧ f' 2 = .bool false ∧ f' 65 = .bool (((!inR m.t.num (if m.t.kind = 3 then (-4) else 0) 99) || ((!(decide (m.t.num = 0))) && ((decide (m.t.kind = 2)) || (decide (m.t.kind = 4))))) || ((!(decide (m.t.ve = 0))) && ((decide (m.t.kind = 3)) || (decide (m.t.kind = 5)))))) ∧ w3813.grownBy w' none) ?_ ?_
    ·
     refine wpo_fieldAddr (o' := 4) fo_45_3 e3836 rfl rfl ?_
     refine wpo_load1 (v := .int .i64 m.t.num) ot_3 rfl (k3830.cell rfl) rfl ?_
     refine wpo_move (v := .int .i64 (if m.t.kind = 3 then (-4) else 0)) e3838 rfl ?_
     refine wpo_call (vs := [.int .i64 m.t.num, .int .i64 (if m.t.kind = 3 then (-4) else 0), .int .i64 99]) gf_85 (args_cons rfl (args_cons rfl (args_cons rfl args_nil))) rfl (l6In_c m.t.num (if m.t.kind = 3 then (-4) else 0) 99 _) ?_
     rintro _ w3846 ⟨rfl, hg3847⟩
     have hb3848 := low0 hb3818 hg3847
     refine wpo_not (b' := !inR m.t.num (if m.t.kind = 3 then (-4) else 0) 99) rfl rfl rfl ?_
     refine wpo_move (v := .bool (!inR m.t.num (if m.t.kind = 3 then (-4) else 0) 99)) rfl rfl ?_
     rcases bcases (!inR m.t.num (if m.t.kind = 3 then (-4) else 0) 99) with h3849 | h3849
     ·
      have h3850 := nt_t h3849
      iterate 4 refine wpo_pass rfl rfl rfl h3849 rfl ?_
      iterate 8 refine wpo_passu rfl rfl rfl rfl ?_
      refine wpo_pass rfl rfl rfl h3849 rfl ?_
      refine wpo_pickt (v := .bool true) rfl h3849 rfl rfl ?_
      refine wpo_move (v := .bool true) rfl rfl ?_
      iterate 4 refine wpo_pass rfl rfl rfl rfl rfl ?_
      iterate 8 refine wpo_passu rfl rfl rfl rfl ?_
      refine wpo_pass rfl rfl rfl rfl rfl ?_
      refine wpo_pickt (v := .bool true) rfl rfl rfl rfl ?_
      exact wpo_nil ⟨⟨e3836, e3837, (congrArg Value.bool (by first | (simp only [h3819, h3820, h3821, h3822, h3823, h3824, h3825, h3826, h3827, h3828, h3849, h3850, b0, b1, b2, b3, b4, b5, b6, b7, b8, b9]; done) | simp [h3819, h3820, h3821, h3822, h3823, h3824, h3825, h3826, h3827, h3828, h3849, h3850]))⟩, hg3847⟩
     ·
      have h3851 := nt_f h3849
      refine wpo_run rfl rfl rfl h3849 ?_
      refine wpo_fieldAddr (o' := 4) fo_45_3 e3836 rfl rfl ?_
      refine wpo_run rfl rfl rfl h3849 ?_
      have k3852 := (k3830.grown0 hg3847)
      refine wpo_load1 (v := .int .i64 m.t.num) ot_3 rfl (k3852.cell rfl) rfl ?_
      refine wpo_run rfl rfl rfl h3849 ?_
      refine wpo_neq (q := !(decide (m.t.num = 0))) rfl rfl rfl rfl ?_
      refine wpo_run rfl rfl rfl h3849 ?_
      refine wpo_move (v := .bool (!(decide (m.t.num = 0)))) rfl rfl ?_
      rcases bcases (!(decide (m.t.num = 0))) with h3853 | h3853
      ·
       have h3854 := nt_t h3853
       have h3855 := of_decide_eq_false h3854
       refine wpo_run rfl rfl rfl h3853 ?_
       refine wpo_fieldAddr (o' := 0) fo_45_0 e3836 rfl rfl ?_
       refine wpo_run rfl rfl rfl h3853 ?_
       refine wpo_load1 (v := .int .i64 m.t.kind) ot_3 rfl (k3852.cell rfl) rfl ?_
       refine wpo_run rfl rfl rfl h3853 ?_
       refine wpo_eql (q := decide (m.t.kind = 2)) rfl rfl rfl rfl ?_
       refine wpo_run rfl rfl rfl h3853 ?_
       refine wpo_move (v := .bool (decide (m.t.kind = 2))) rfl rfl ?_
       rcases bcases (decide (m.t.kind = 2)) with h3856 | h3856
       ·
        have h3857 := of_decide_eq_true h3856
        iterate 3 refine wpo_pass rfl rfl rfl h3856 rfl ?_
        refine wpo_run rfl rfl rfl h3853 ?_
        refine wpo_pickt (v := .bool true) rfl h3856 rfl rfl ?_
        refine wpo_run rfl rfl rfl h3849 ?_
        refine wpo_pickt (v := .bool true) rfl h3853 rfl rfl ?_
        refine wpo_pickf (v := .bool true) rfl h3849 rfl rfl ?_
        refine wpo_move (v := .bool true) rfl rfl ?_
        iterate 4 refine wpo_pass rfl rfl rfl rfl rfl ?_
        iterate 8 refine wpo_passu rfl rfl rfl rfl ?_
        refine wpo_pass rfl rfl rfl rfl rfl ?_
        refine wpo_pickt (v := .bool true) rfl rfl rfl rfl ?_
        exact wpo_nil ⟨⟨e3836, e3837, (congrArg Value.bool (by first | (simp only [h3819, h3820, h3821, h3822, h3823, h3824, h3825, h3826, h3827, h3828, h3849, h3851, h3853, h3854, h3856, b0, b1, b2, b3, b4, b5, b6, b7, b8, b9]; done) | simp [h3819, h3820, h3821, h3822, h3823, h3824, h3825, h3826, h3827, h3828, h3849, h3851, h3853, h3854, h3856]))⟩, hg3847⟩
       ·
        have h3858 := of_decide_eq_false h3856
        refine wpo_run rfl rfl rfl h3856 ?_
        refine wpo_fieldAddr (o' := 0) fo_45_0 e3836 rfl rfl ?_
        refine wpo_run rfl rfl rfl h3856 ?_
        refine wpo_load1 (v := .int .i64 m.t.kind) ot_3 rfl (k3852.cell rfl) rfl ?_
        refine wpo_run rfl rfl rfl h3856 ?_
        refine wpo_eql (q := decide (m.t.kind = 4)) rfl rfl rfl rfl ?_
        refine wpo_run rfl rfl rfl h3853 ?_
        refine wpo_pickf (v := .bool (decide (m.t.kind = 4))) rfl h3856 rfl rfl ?_
        refine wpo_run rfl rfl rfl h3849 ?_
        refine wpo_pickt (v := .bool (decide (m.t.kind = 4))) rfl h3853 rfl rfl ?_
        refine wpo_pickf (v := .bool (decide (m.t.kind = 4))) rfl h3849 rfl rfl ?_
        refine wpo_move (v := .bool (decide (m.t.kind = 4))) rfl rfl ?_
        rcases bcases (decide (m.t.kind = 4)) with h3859 | h3859
        ·
         have h3860 := of_decide_eq_true h3859
         iterate 4 refine wpo_pass rfl rfl rfl h3859 rfl ?_
         iterate 8 refine wpo_passu rfl rfl rfl rfl ?_
         refine wpo_pass rfl rfl rfl h3859 rfl ?_
         refine wpo_pickt (v := .bool true) rfl h3859 rfl rfl ?_
         exact wpo_nil ⟨⟨e3836, e3837, (congrArg Value.bool (by first | (simp only [h3819, h3820, h3821, h3822, h3823, h3824, h3825, h3826, h3827, h3828, h3849, h3851, h3853, h3854, h3856, h3859, b0, b1, b2, b3, b4, b5, b6, b7, b8, b9]; done) | simp [h3819, h3820, h3821, h3822, h3823, h3824, h3825, h3826, h3827, h3828, h3849, h3851, h3853, h3854, h3856, h3859]))⟩, hg3847⟩
        ·
         have h3861 := of_decide_eq_false h3859
         refine wpo_run rfl rfl rfl h3859 ?_
         refine wpo_fieldAddr (o' := 3) fo_45_2 e3836 rfl rfl ?_
         refine wpo_run rfl rfl rfl h3859 ?_
         refine wpo_load1 (v := .int .i64 m.t.ve) ot_3 rfl (k3852.cell rfl) rfl ?_
         refine wpo_run rfl rfl rfl h3859 ?_
         refine wpo_neq (q := !(decide (m.t.ve = 0))) rfl rfl rfl rfl ?_
         refine wpo_run rfl rfl rfl h3859 ?_
         refine wpo_move (v := .bool (!(decide (m.t.ve = 0)))) rfl rfl ?_
         rcases bcases (!(decide (m.t.ve = 0))) with h3862 | h3862
         ·
          have h3863 := nt_t h3862
          have h3864 := of_decide_eq_false h3863
          refine wpo_run rfl rfl rfl h3862 ?_
          refine wpo_fieldAddr (o' := 0) fo_45_0 e3836 rfl rfl ?_
          refine wpo_run rfl rfl rfl h3862 ?_
          refine wpo_load1 (v := .int .i64 m.t.kind) ot_3 rfl (k3852.cell rfl) rfl ?_
          refine wpo_run rfl rfl rfl h3862 ?_
          refine wpo_eql (q := decide (m.t.kind = 3)) rfl rfl rfl rfl ?_
          refine wpo_run rfl rfl rfl h3862 ?_
          refine wpo_move (v := .bool (decide (m.t.kind = 3))) rfl rfl ?_
          rcases bcases (decide (m.t.kind = 3)) with h3865 | h3865
          ·
           have h3866 := of_decide_eq_true h3865
           iterate 3 refine wpo_pass rfl rfl rfl h3865 rfl ?_
           refine wpo_run rfl rfl rfl h3862 ?_
           refine wpo_pickt (v := .bool true) rfl h3865 rfl rfl ?_
           refine wpo_run rfl rfl rfl h3859 ?_
           refine wpo_pickt (v := .bool true) rfl h3862 rfl rfl ?_
           refine wpo_pickf (v := .bool true) rfl h3859 rfl rfl ?_
           exact wpo_nil ⟨⟨e3836, e3837, (congrArg Value.bool (by first | (simp only [h3819, h3820, h3821, h3822, h3823, h3824, h3825, h3826, h3827, h3828, h3849, h3851, h3853, h3854, h3856, h3859, h3862, h3863, h3865, b0, b1, b2, b3, b4, b5, b6, b7, b8, b9]; done) | simp [h3819, h3820, h3821, h3822, h3823, h3824, h3825, h3826, h3827, h3828, h3849, h3851, h3853, h3854, h3856, h3859, h3862, h3863, h3865]))⟩, hg3847⟩
          ·
           have h3867 := of_decide_eq_false h3865
           refine wpo_run rfl rfl rfl h3865 ?_
           refine wpo_fieldAddr (o' := 0) fo_45_0 e3836 rfl rfl ?_
           refine wpo_run rfl rfl rfl h3865 ?_
           refine wpo_load1 (v := .int .i64 m.t.kind) ot_3 rfl (k3852.cell rfl) rfl ?_
           refine wpo_run rfl rfl rfl h3865 ?_
           refine wpo_eql (q := decide (m.t.kind = 5)) rfl rfl rfl rfl ?_
           refine wpo_run rfl rfl rfl h3862 ?_
           refine wpo_pickf (v := .bool (decide (m.t.kind = 5))) rfl h3865 rfl rfl ?_
           refine wpo_run rfl rfl rfl h3859 ?_
           refine wpo_pickt (v := .bool (decide (m.t.kind = 5))) rfl h3862 rfl rfl ?_
           refine wpo_pickf (v := .bool (decide (m.t.kind = 5))) rfl h3859 rfl rfl ?_
           exact wpo_nil ⟨⟨e3836, e3837, (congrArg Value.bool (by first | (simp only [h3819, h3820, h3821, h3822, h3823, h3824, h3825, h3826, h3827, h3828, h3849, h3851, h3853, h3854, h3856, h3859, h3862, h3863, h3865, b0, b1, b2, b3, b4, b5, b6, b7, b8, b9]; done) | simp [h3819, h3820, h3821, h3822, h3823, h3824, h3825, h3826, h3827, h3828, h3849, h3851, h3853, h3854, h3856, h3859, h3862, h3863, h3865]))⟩, hg3847⟩
         ·
          have h3868 := nt_f h3862
          have h3869 := of_decide_eq_true h3868
          iterate 4 refine wpo_pass rfl rfl rfl h3862 rfl ?_
          iterate 3 refine wpo_passu rfl rfl rfl rfl ?_
          refine wpo_pass rfl rfl rfl h3862 rfl ?_
          refine wpo_run rfl rfl rfl h3859 ?_
          refine wpo_pickf (v := .bool false) rfl h3862 rfl rfl ?_
          refine wpo_pickf (v := .bool false) rfl h3859 rfl rfl ?_
          exact wpo_nil ⟨⟨e3836, e3837, (congrArg Value.bool (by first | (simp only [h3819, h3820, h3821, h3822, h3823, h3824, h3825, h3826, h3827, h3828, h3849, h3851, h3853, h3854, h3856, h3859, h3862, h3868, b0, b1, b2, b3, b4, b5, b6, b7, b8, b9]; done) | simp [h3819, h3820, h3821, h3822, h3823, h3824, h3825, h3826, h3827, h3828, h3849, h3851, h3853, h3854, h3856, h3859, h3862, h3868]))⟩, hg3847⟩
      ·
       have h3870 := nt_f h3853
       have h3871 := of_decide_eq_true h3870
       iterate 4 refine wpo_pass rfl rfl rfl h3853 rfl ?_
       iterate 3 refine wpo_passu rfl rfl rfl rfl ?_
       refine wpo_pass rfl rfl rfl h3853 rfl ?_
       refine wpo_run rfl rfl rfl h3849 ?_
       refine wpo_pickf (v := .bool false) rfl h3853 rfl rfl ?_
       refine wpo_pickf (v := .bool false) rfl h3849 rfl rfl ?_
       refine wpo_move (v := .bool false) rfl rfl ?_
       refine wpo_run rfl rfl rfl rfl ?_
       refine wpo_fieldAddr (o' := 3) fo_45_2 e3836 rfl rfl ?_
       refine wpo_run rfl rfl rfl rfl ?_
       refine wpo_load1 (v := .int .i64 m.t.ve) ot_3 rfl (k3852.cell rfl) rfl ?_
       refine wpo_run rfl rfl rfl rfl ?_
       refine wpo_neq (q := !(decide (m.t.ve = 0))) rfl rfl rfl rfl ?_
       refine wpo_run rfl rfl rfl rfl ?_
       refine wpo_move (v := .bool (!(decide (m.t.ve = 0)))) rfl rfl ?_
       rcases bcases (!(decide (m.t.ve = 0))) with h3872 | h3872
       ·
        have h3873 := nt_t h3872
        have h3874 := of_decide_eq_false h3873
        refine wpo_run rfl rfl rfl h3872 ?_
        refine wpo_fieldAddr (o' := 0) fo_45_0 e3836 rfl rfl ?_
        refine wpo_run rfl rfl rfl h3872 ?_
        refine wpo_load1 (v := .int .i64 m.t.kind) ot_3 rfl (k3852.cell rfl) rfl ?_
        refine wpo_run rfl rfl rfl h3872 ?_
        refine wpo_eql (q := decide (m.t.kind = 3)) rfl rfl rfl rfl ?_
        refine wpo_run rfl rfl rfl h3872 ?_
        refine wpo_move (v := .bool (decide (m.t.kind = 3))) rfl rfl ?_
        rcases bcases (decide (m.t.kind = 3)) with h3875 | h3875
        ·
         have h3876 := of_decide_eq_true h3875
         iterate 3 refine wpo_pass rfl rfl rfl h3875 rfl ?_
         refine wpo_run rfl rfl rfl h3872 ?_
         refine wpo_pickt (v := .bool true) rfl h3875 rfl rfl ?_
         refine wpo_run rfl rfl rfl rfl ?_
         refine wpo_pickt (v := .bool true) rfl h3872 rfl rfl ?_
         refine wpo_pickf (v := .bool true) rfl rfl rfl rfl ?_
         exact wpo_nil ⟨⟨e3836, e3837, (congrArg Value.bool (by first | (simp only [h3819, h3820, h3821, h3822, h3823, h3824, h3825, h3826, h3827, h3828, h3849, h3851, h3853, h3870, h3872, h3873, h3875, b0, b1, b2, b3, b4, b5, b6, b7, b8, b9]; done) | simp [h3819, h3820, h3821, h3822, h3823, h3824, h3825, h3826, h3827, h3828, h3849, h3851, h3853, h3870, h3872, h3873, h3875]))⟩, hg3847⟩
        ·
         have h3877 := of_decide_eq_false h3875
         refine wpo_run rfl rfl rfl h3875 ?_
         refine wpo_fieldAddr (o' := 0) fo_45_0 e3836 rfl rfl ?_
         refine wpo_run rfl rfl rfl h3875 ?_
         refine wpo_load1 (v := .int .i64 m.t.kind) ot_3 rfl (k3852.cell rfl) rfl ?_
         refine wpo_run rfl rfl rfl h3875 ?_
         refine wpo_eql (q := decide (m.t.kind = 5)) rfl rfl rfl rfl ?_
         refine wpo_run rfl rfl rfl h3872 ?_
         refine wpo_pickf (v := .bool (decide (m.t.kind = 5))) rfl h3875 rfl rfl ?_
         refine wpo_run rfl rfl rfl rfl ?_
         refine wpo_pickt (v := .bool (decide (m.t.kind = 5))) rfl h3872 rfl rfl ?_
         refine wpo_pickf (v := .bool (decide (m.t.kind = 5))) rfl rfl rfl rfl ?_
         exact wpo_nil ⟨⟨e3836, e3837, (congrArg Value.bool (by first | (simp only [h3819, h3820, h3821, h3822, h3823, h3824, h3825, h3826, h3827, h3828, h3849, h3851, h3853, h3870, h3872, h3873, h3875, b0, b1, b2, b3, b4, b5, b6, b7, b8, b9]; done) | simp [h3819, h3820, h3821, h3822, h3823, h3824, h3825, h3826, h3827, h3828, h3849, h3851, h3853, h3870, h3872, h3873, h3875]))⟩, hg3847⟩
       ·
        have h3878 := nt_f h3872
        have h3879 := of_decide_eq_true h3878
        iterate 4 refine wpo_pass rfl rfl rfl h3872 rfl ?_
        iterate 3 refine wpo_passu rfl rfl rfl rfl ?_
        refine wpo_pass rfl rfl rfl h3872 rfl ?_
        refine wpo_run rfl rfl rfl rfl ?_
        refine wpo_pickf (v := .bool false) rfl h3872 rfl rfl ?_
        refine wpo_pickf (v := .bool false) rfl rfl rfl rfl ?_
        exact wpo_nil ⟨⟨e3836, e3837, (congrArg Value.bool (by first | (simp only [h3819, h3820, h3821, h3822, h3823, h3824, h3825, h3826, h3827, h3828, h3849, h3851, h3853, h3870, h3872, h3878, b0, b1, b2, b3, b4, b5, b6, b7, b8, b9]; done) | simp [h3819, h3820, h3821, h3822, h3823, h3824, h3825, h3826, h3827, h3828, h3849, h3851, h3853, h3870, h3872, h3878]))⟩, hg3847⟩
    ·
     rintro f3880 w3881 ⟨⟨e3882, e3883, e3884⟩, hg3885⟩
     have hb3886 := low0 hb3818 hg3885
     refine wpf_cond e3884 (fun h3887 => ?_) (fun h3887 => ?_)
     ·
      refine wpf_seq_region ?_
      refine wpo_assign (v := .bool false) rfl rfl ?_
      refine wpo_nil ?_
      refine wpf_ret ?_
      refine thn_r ?_
      refine ⟨.bool false, res1 rfl rfl, ?_, hb3886⟩
      exact congrArg Value.bool (th_b h3887)
     ·
      have h3888 := or_l h3887
      have h3889 := or_l h3888
      have h3890 := nt_f h3889
      have h3891 := or_r h3888
      have h3892 := or_r h3887
      refine wpf_skip ?_
      refine thn_n ?_
      refine wpf_seq ?_
      refine wpf_seq_region ?_
      refine wpo_assign (v := .int .i64 0) rfl rfl ?_
      refine wpo_nil ?_
      refine wpf_block ?_
      have k3893 := (k3830.grown0 hg3885)
      refine wpf_loopN (fun mm f' w' => ∃ (k : Nat), mm = m.t.queue.length - k ∧ k ≤ m.t.queue.length ∧ ((m.t.queue.take k).all numQ) = true ∧ f' 4 = .int .i64 (k : Int) ∧ f' 1 = .pointer (some ⟨B3772, 0, none⟩) ∧ w.grownBy w' none ∧ Blk w' B3772 45 #[.int .i64 m.t.kind, .int .i64 m.t.lab.s, .int .i64 m.t.lab.v, .int .i64 m.t.ve, .int .i64 m.t.num, .slice m.sa m.t.slots.length m.sc, .slice m.qa m.t.queue.length m.qc, .int .i64 m.t.to]) (m.t.queue.length - 0) ⟨0, rfl, (Nat.zero_le _), rfl, rfl, e3882, hb3886, k3893⟩ ?_
      rintro mm f3894 w3895 ⟨k, hm3897, hk, ha, e3898, e3899, hb3896, k3900⟩
      refine wpf_seq ?_
      refine wpf_seq_region ?_
      refine wpo_move (v := .int .i64 (k : Int)) e3898 rfl ?_
      refine wpo_fieldAddr (o' := 6) fo_45_5 e3899 rfl rfl ?_
      refine wpo_load1 (v := .slice m.qa m.t.queue.length m.qc) ot_43 rfl (k3900.cell rfl) rfl ?_
      refine wpo_len (by kernel_rfl) rfl rfl ?_
      refine wpo_lss (q := decide ((k : Int) < (m.t.queue.length : Int))) rfl rfl rfl rfl ?_
      refine wpo_nil ?_
      refine wpf_cond rfl (fun h3901 => ?_) (fun h3901 => ?_)
      ·
       have h3902 := of_decide_eq_true h3901
       refine wpf_skip ?_
       refine thn_n ?_
       refine wpf_seq ?_
       refine wpf_block ?_
       refine wpf_seq_region ?_
       refine wpo_fieldAddr (o' := 6) fo_45_5 e3899 rfl rfl ?_
       refine wpo_load1 (v := .slice m.qa m.t.queue.length m.qc) ot_43 rfl (k3900.cell rfl) rfl ?_
       refine wpo_move (v := .int .i64 (k : Int)) e3898 rfl ?_
       obtain ⟨x3903, hx3904⟩ := get_lt (l := m.t.queue) (i := k) (by omega)
       obtain ⟨b3905, q3906, o3907, ha3908, ho3909, hr3910⟩ := SlAt.at hq (map_get hx3904)
       refine wpo_indexE es_43 rfl rfl ha3908 ho3909 (by omega) (by omega) rfl ?_
       refine wpo_load1 (v := .int .i64 x3903) ot_3 rfl ((range_low hr3910 hb3896) 0 _ rfl) rfl ?_
       refine wpo_call (vs := [.int .i64 x3903, .int .i64 0, .int .i64 99]) gf_85 (args_cons rfl (args_cons rfl (args_cons rfl args_nil))) rfl (l6In_c x3903 0 99 _) ?_
       rintro _ w3911 ⟨rfl, hg3912⟩
       have hb3913 := low0 hb3896 hg3912
       refine wpo_not (b' := !inR x3903 0 99) rfl rfl rfl ?_
       refine wpo_nil ?_
       refine wpf_cond rfl (fun h3914 => ?_) (fun h3914 => ?_)
       ·
        have h3915 := nt_t h3914
        refine wpf_seq_region ?_
        refine wpo_assign (v := .bool false) rfl rfl ?_
        refine wpo_nil ?_
        refine wpf_ret ?_
        refine blk_r ?_
        refine thn_r ?_
        refine thn_r ?_
        refine blk_r ?_
        refine thn_r ?_
        refine ⟨.bool false, res1 rfl rfl, ?_, hb3913⟩
        exact congrArg Value.bool (th_q hx3904 h3915)
       ·
        have h3916 := nt_f h3914
        refine wpf_skip ?_
        refine blk_n ?_
        refine thn_n ?_
        refine wpf_region ?_
        refine wpo_move (v := .int .i64 (k : Int)) e3898 rfl ?_
        refine wpo_add (c := (k : Int) + 1) rfl rfl (by omega) (by omega) (by omega) rfl ?_
        refine wpo_assign (v := .int .i64 ((k : Int) + 1)) rfl rfl ?_
        refine wpo_nil ?_
        refine thn_n ?_
        have k3917 := (k3900.grown0 hg3912)
        exact ⟨m.t.queue.length - (k + 1), by omega, (k + 1), rfl, (by omega), (take_all_succ (p := numQ) ha hx3904 h3916), rfl, e3899, hb3913, k3917⟩
      ·
       have h3918 := of_decide_eq_false h3901
       refine wpf_exit ?_
       refine thn_e ?_
       refine thn_e ?_
       refine blk_e ?_
       refine thn_n ?_
       refine wpf_seq ?_
       refine wpf_seq_region ?_
       refine wpo_assign (v := .int .i64 0) rfl rfl ?_
       refine wpo_nil ?_
       refine wpf_block ?_
       refine wpf_loopN (fun mm f' w' => ∃ (j : Nat), mm = m.t.slots.length - j ∧ j ≤ m.t.slots.length ∧ ((m.t.slots.take j).all rightOk) = true ∧ f' 5 = .int .i64 (j : Int) ∧ f' 1 = .pointer (some ⟨B3772, 0, none⟩) ∧ w.grownBy w' none ∧ Blk w' B3772 45 #[.int .i64 m.t.kind, .int .i64 m.t.lab.s, .int .i64 m.t.lab.v, .int .i64 m.t.ve, .int .i64 m.t.num, .slice m.sa m.t.slots.length m.sc, .slice m.qa m.t.queue.length m.qc, .int .i64 m.t.to]) (m.t.slots.length - 0) ⟨0, rfl, (Nat.zero_le _), rfl, rfl, e3899, hb3896, k3900⟩ ?_
       rintro mm f3919 w3920 ⟨j, hm3922, hj, hb, e3923, e3924, hb3921, k3925⟩
       refine wpf_seq ?_
       refine wpf_seq_region ?_
       refine wpo_move (v := .int .i64 (j : Int)) e3923 rfl ?_
       refine wpo_fieldAddr (o' := 5) fo_45_4 e3924 rfl rfl ?_
       refine wpo_load1 (v := .slice m.sa m.t.slots.length m.sc) ot_27 rfl (k3925.cell rfl) rfl ?_
       refine wpo_len (by kernel_rfl) rfl rfl ?_
       refine wpo_lss (q := decide ((j : Int) < (m.t.slots.length : Int))) rfl rfl rfl rfl ?_
       refine wpo_nil ?_
       refine wpf_cond rfl (fun h3926 => ?_) (fun h3926 => ?_)
       ·
        have h3927 := of_decide_eq_true h3926
        refine wpf_skip ?_
        refine thn_n ?_
        refine wpf_seq ?_
        refine wpf_block ?_
        refine wpf_seq_region ?_
        refine wpo_fieldAddr (o' := 5) fo_45_4 e3924 rfl rfl ?_
        refine wpo_load1 (v := .slice m.sa m.t.slots.length m.sc) ot_27 rfl (k3925.cell rfl) rfl ?_
        refine wpo_move (v := .int .i64 (j : Int)) e3923 rfl ?_
        obtain ⟨x3928, hx3929⟩ := get_lt (l := m.t.slots) (i := j) (by omega)
        obtain ⟨b3930, q3931, o3932, ha3933, ho3934, hr3935⟩ := SlAt.at hs (map_get hx3929)
        refine wpo_indexE es_27 rfl rfl ha3933 ho3934 (by omega) (by omega) rfl ?_
        refine wpo_loadn (vs := [.int .i64 x3928.th, .int .i64 x3928.ve, .bool x3928.rd, .bool x3928.wr, .bool x3928.wk]) rt_29 rfl rfl (range_sub (range_low hr3935 hb3921) 0 5 rfl) rfl ?_
        refine wpo_call (vs := [.agg #[.int .i64 x3928.th, .int .i64 x3928.ve, .bool x3928.rd, .bool x3928.wr, .bool x3928.wk]]) gf_54 (args_cons rfl args_nil) rfl (sRightOk_c x3928 _) ?_
        rintro _ w3936 ⟨rfl, hg3937⟩
        have hb3938 := low0 hb3921 hg3937
        refine wpo_not (b' := !rightOk x3928) rfl rfl rfl ?_
        refine wpo_nil ?_
        refine wpf_cond rfl (fun h3939 => ?_) (fun h3939 => ?_)
        ·
         have h3940 := nt_t h3939
         refine wpf_seq_region ?_
         refine wpo_assign (v := .bool false) rfl rfl ?_
         refine wpo_nil ?_
         refine wpf_ret ?_
         refine blk_r ?_
         refine thn_r ?_
         refine thn_r ?_
         refine blk_r ?_
         refine thn_r ?_
         refine ⟨.bool false, res1 rfl rfl, ?_, hb3938⟩
         exact congrArg Value.bool (th_r hx3929 h3940)
        ·
         have h3941 := nt_f h3939
         refine wpf_skip ?_
         refine blk_n ?_
         refine thn_n ?_
         refine wpf_region ?_
         refine wpo_move (v := .int .i64 (j : Int)) e3923 rfl ?_
         refine wpo_add (c := (j : Int) + 1) rfl rfl (by omega) (by omega) (by omega) rfl ?_
         refine wpo_assign (v := .int .i64 ((j : Int) + 1)) rfl rfl ?_
         refine wpo_nil ?_
         refine thn_n ?_
         have k3942 := (k3925.grown0 hg3937)
         exact ⟨m.t.slots.length - (j + 1), by omega, (j + 1), rfl, (by omega), (take_all_succ (p := rightOk) hb hx3929 h3941), rfl, e3924, hb3938, k3942⟩
       ·
        have h3943 := of_decide_eq_false h3926
        refine wpf_exit ?_
        refine thn_e ?_
        refine thn_e ?_
        refine blk_e ?_
        refine thn_n ?_
        refine wpf_seq ?_
        refine wpf_seq_region_mid (fun f' w' => (f' 1 = .pointer (some ⟨B3772, 0, none⟩) ∧ f' 114 = .bool ((((decide (m.t.kind = 2)) || (decide (m.t.kind = 3))) && (!(decide ((m.t.slots.length : Int) = 4)))) || ((!((decide (m.t.kind = 2)) || (decide (m.t.kind = 3)))) && (!(decide ((m.t.slots.length : Int) = 0)))))) ∧ w3920.grownBy w' none) ?_ ?_
        ·
         refine wpo_fieldAddr (o' := 0) fo_45_0 e3924 rfl rfl ?_
         refine wpo_load1 (v := .int .i64 m.t.kind) ot_3 rfl (k3925.cell rfl) rfl ?_
         refine wpo_call (vs := [.int .i64 m.t.kind]) gf_66 (args_cons rfl args_nil) rfl (l3Slots_c m.t.kind _) ?_
         rintro _ w3955 ⟨rfl, hg3956⟩
         have hb3957 := low0 hb3921 hg3956
         refine wpo_move (v := .bool ((decide (m.t.kind = 2)) || (decide (m.t.kind = 3)))) rfl rfl ?_
         rcases bcases ((decide (m.t.kind = 2)) || (decide (m.t.kind = 3))) with h3958 | h3958
         ·
          refine wpo_run rfl rfl rfl h3958 ?_
          refine wpo_fieldAddr (o' := 5) fo_45_4 e3924 rfl rfl ?_
          refine wpo_run rfl rfl rfl h3958 ?_
          have k3959 := (k3925.grown0 hg3956)
          refine wpo_load1 (v := .slice m.sa m.t.slots.length m.sc) ot_27 rfl (k3959.cell rfl) rfl ?_
          refine wpo_run rfl rfl rfl h3958 ?_
          refine wpo_len (by kernel_rfl) rfl rfl ?_
          refine wpo_run rfl rfl rfl h3958 ?_
          refine wpo_neq (q := !(decide ((m.t.slots.length : Int) = 4))) rfl rfl rfl rfl ?_
          refine wpo_pickt (v := .bool (!(decide ((m.t.slots.length : Int) = 4)))) rfl h3958 rfl rfl ?_
          refine wpo_move (v := .bool (!(decide ((m.t.slots.length : Int) = 4)))) rfl rfl ?_
          rcases bcases (!(decide ((m.t.slots.length : Int) = 4))) with h3960 | h3960
          ·
           have h3961 := nt_t h3960
           have h3962 := of_decide_eq_false h3961
           iterate 5 refine wpo_pass rfl rfl rfl h3960 rfl ?_
           iterate 4 refine wpo_passu rfl rfl rfl rfl ?_
           refine wpo_pass rfl rfl rfl h3960 rfl ?_
           refine wpo_pickt (v := .bool true) rfl h3960 rfl rfl ?_
           exact wpo_nil ⟨⟨e3924, (congrArg Value.bool (by first | (simp only [h3819, h3820, h3821, h3822, h3823, h3824, h3825, h3826, h3827, h3828, h3887, h3888, h3889, h3890, h3891, h3892, h3901, h3926, h3958, h3960, h3961, b0, b1, b2, b3, b4, b5, b6, b7, b8, b9]; done) | simp [h3819, h3820, h3821, h3822, h3823, h3824, h3825, h3826, h3827, h3828, h3887, h3888, h3889, h3890, h3891, h3892, h3901, h3926, h3958, h3960, h3961]))⟩, hg3956⟩
          ·
           have h3963 := nt_f h3960
           have h3964 := of_decide_eq_true h3963
           refine wpo_run rfl rfl rfl h3960 ?_
           refine wpo_fieldAddr (o' := 0) fo_45_0 e3924 rfl rfl ?_
           refine wpo_run rfl rfl rfl h3960 ?_
           refine wpo_load1 (v := .int .i64 m.t.kind) ot_3 rfl (k3959.cell rfl) rfl ?_
           refine wpo_run rfl rfl rfl h3960 ?_
           refine wpo_call (vs := [.int .i64 m.t.kind]) gf_66 (args_cons rfl args_nil) rfl (l3Slots_c m.t.kind _) ?_
           rintro _ w3965 ⟨rfl, hg3966⟩
           have hb3967 := low0 hb3957 hg3966
           refine wpo_run rfl rfl rfl h3960 ?_
           refine wpo_not (b' := !((decide (m.t.kind = 2)) || (decide (m.t.kind = 3)))) rfl rfl rfl ?_
           refine wpo_run rfl rfl rfl h3960 ?_
           refine wpo_move (v := .bool (!((decide (m.t.kind = 2)) || (decide (m.t.kind = 3))))) rfl rfl ?_
           iterate 4 refine wpo_pass rfl rfl rfl (not_of_t h3958) rfl ?_
           refine wpo_run rfl rfl rfl h3960 ?_
           refine wpo_pickf (v := .bool false) rfl (not_of_t h3958) rfl rfl ?_
           refine wpo_pickf (v := .bool false) rfl h3960 rfl rfl ?_
           exact wpo_nil ⟨⟨e3924, (congrArg Value.bool (by first | (simp only [h3819, h3820, h3821, h3822, h3823, h3824, h3825, h3826, h3827, h3828, h3887, h3888, h3889, h3890, h3891, h3892, h3901, h3926, h3958, h3960, h3963, b0, b1, b2, b3, b4, b5, b6, b7, b8, b9]; done) | simp [h3819, h3820, h3821, h3822, h3823, h3824, h3825, h3826, h3827, h3828, h3887, h3888, h3889, h3890, h3891, h3892, h3901, h3926, h3958, h3960, h3963]))⟩, (grown_trans hg3956 hg3966)⟩
         ·
          have h3968 := or_l h3958
          have h3969 := of_decide_eq_false h3968
          have h3970 := or_r h3958
          have h3971 := of_decide_eq_false h3970
          iterate 4 refine wpo_pass rfl rfl rfl h3958 rfl ?_
          refine wpo_pickf (v := .bool false) rfl h3958 rfl rfl ?_
          refine wpo_move (v := .bool false) rfl rfl ?_
          refine wpo_run rfl rfl rfl rfl ?_
          refine wpo_fieldAddr (o' := 0) fo_45_0 e3924 rfl rfl ?_
          refine wpo_run rfl rfl rfl rfl ?_
          have k3972 := (k3925.grown0 hg3956)
          refine wpo_load1 (v := .int .i64 m.t.kind) ot_3 rfl (k3972.cell rfl) rfl ?_
          refine wpo_run rfl rfl rfl rfl ?_
          refine wpo_call (vs := [.int .i64 m.t.kind]) gf_66 (args_cons rfl args_nil) rfl (l3Slots_c m.t.kind _) ?_
          rintro _ w3973 ⟨rfl, hg3974⟩
          have hb3975 := low0 hb3957 hg3974
          refine wpo_run rfl rfl rfl rfl ?_
          refine wpo_not (b' := !((decide (m.t.kind = 2)) || (decide (m.t.kind = 3)))) rfl rfl rfl ?_
          refine wpo_run rfl rfl rfl rfl ?_
          refine wpo_move (v := .bool (!((decide (m.t.kind = 2)) || (decide (m.t.kind = 3))))) rfl rfl ?_
          refine wpo_run rfl rfl rfl (not_of_f h3958) ?_
          refine wpo_fieldAddr (o' := 5) fo_45_4 e3924 rfl rfl ?_
          refine wpo_run rfl rfl rfl (not_of_f h3958) ?_
          have k3976 := (k3972.grown0 hg3974)
          refine wpo_load1 (v := .slice m.sa m.t.slots.length m.sc) ot_27 rfl (k3976.cell rfl) rfl ?_
          refine wpo_run rfl rfl rfl (not_of_f h3958) ?_
          refine wpo_len (by kernel_rfl) rfl rfl ?_
          refine wpo_run rfl rfl rfl (not_of_f h3958) ?_
          refine wpo_neq (q := !(decide ((m.t.slots.length : Int) = 0))) rfl rfl rfl rfl ?_
          refine wpo_run rfl rfl rfl rfl ?_
          refine wpo_pickt (v := .bool (!(decide ((m.t.slots.length : Int) = 0)))) rfl (not_of_f h3958) rfl rfl ?_
          refine wpo_pickf (v := .bool (!(decide ((m.t.slots.length : Int) = 0)))) rfl rfl rfl rfl ?_
          exact wpo_nil ⟨⟨e3924, (congrArg Value.bool (by first | (simp only [h3819, h3820, h3821, h3822, h3823, h3824, h3825, h3826, h3827, h3828, h3887, h3888, h3889, h3890, h3891, h3892, h3901, h3926, h3958, h3968, h3970, b0, b1, b2, b3, b4, b5, b6, b7, b8, b9]; done) | simp [h3819, h3820, h3821, h3822, h3823, h3824, h3825, h3826, h3827, h3828, h3887, h3888, h3889, h3890, h3891, h3892, h3901, h3926, h3958, h3968, h3970]))⟩, (grown_trans hg3956 hg3974)⟩
        ·
         rintro f3977 w3978 ⟨⟨e3979, e3980⟩, hg3981⟩
         have hb3982 := low0 hb3921 hg3981
         refine wpf_cond e3980 (fun h3983 => ?_) (fun h3983 => ?_)
         ·
          refine wpf_seq_region ?_
          refine wpo_assign (v := .bool false) rfl rfl ?_
          refine wpo_nil ?_
          refine wpf_ret ?_
          refine thn_r ?_
          refine ⟨.bool false, res1 rfl rfl, ?_, hb3982⟩
          exact congrArg Value.bool (th_d h3983)
         ·
          have h3984 := or_l h3983
          have h3985 := or_r h3983
          refine wpf_skip ?_
          refine thn_n ?_
          refine wpf_seq_region_mid (fun f' w' => (f' 2 = .bool (((decide (m.t.kind = 4)) || (decide ((m.t.queue.length : Int) = 0))) && (((decide (m.t.kind = 5)) && inR m.t.to 1 8) || ((!(decide (m.t.kind = 5))) && (decide (m.t.to = 0)))))) ∧ w3978.grownBy w' none) ?_ ?_
          ·
           refine wpo_fieldAddr (o' := 0) fo_45_0 e3979 rfl rfl ?_
           have k3992 := (k3925.grown0 hg3981)
           refine wpo_load1 (v := .int .i64 m.t.kind) ot_3 rfl (k3992.cell rfl) rfl ?_
           refine wpo_eql (q := decide (m.t.kind = 4)) rfl rfl rfl rfl ?_
           refine wpo_move (v := .bool (decide (m.t.kind = 4))) rfl rfl ?_
           rcases bcases (decide (m.t.kind = 4)) with h3993 | h3993
           ·
            have h3994 := of_decide_eq_true h3993
            iterate 4 refine wpo_pass rfl rfl rfl h3993 rfl ?_
            refine wpo_pickt (v := .bool true) rfl h3993 rfl rfl ?_
            refine wpo_move (v := .bool true) rfl rfl ?_
            refine wpo_run rfl rfl rfl rfl ?_
            refine wpo_fieldAddr (o' := 0) fo_45_0 e3979 rfl rfl ?_
            refine wpo_run rfl rfl rfl rfl ?_
            refine wpo_load1 (v := .int .i64 m.t.kind) ot_3 rfl (k3992.cell rfl) rfl ?_
            refine wpo_run rfl rfl rfl rfl ?_
            refine wpo_eql (q := decide (m.t.kind = 5)) rfl rfl rfl rfl ?_
            refine wpo_run rfl rfl rfl rfl ?_
            refine wpo_move (v := .bool (decide (m.t.kind = 5))) rfl rfl ?_
            rcases bcases (decide (m.t.kind = 5)) with h3995 | h3995
            ·
             have h3996 := of_decide_eq_true h3995
             refine wpo_run rfl rfl rfl h3995 ?_
             refine wpo_fieldAddr (o' := 7) fo_45_6 e3979 rfl rfl ?_
             refine wpo_run rfl rfl rfl h3995 ?_
             refine wpo_load1 (v := .int .i64 m.t.to) ot_3 rfl (k3992.cell rfl) rfl ?_
             refine wpo_run rfl rfl rfl h3995 ?_
             refine wpo_call (vs := [.int .i64 m.t.to, .int .i64 1, .int .i64 8]) gf_85 (args_cons rfl (args_cons rfl (args_cons rfl args_nil))) rfl (l6In_c m.t.to 1 8 _) ?_
             rintro _ w3997 ⟨rfl, hg3998⟩
             have hb3999 := low0 hb3982 hg3998
             refine wpo_run rfl rfl rfl rfl ?_
             refine wpo_pickt (v := .bool (inR m.t.to 1 8)) rfl h3995 rfl rfl ?_
             refine wpo_run rfl rfl rfl rfl ?_
             refine wpo_move (v := .bool (inR m.t.to 1 8)) rfl rfl ?_
             rcases bcases (inR m.t.to 1 8) with h4000 | h4000
             ·
              iterate 4 refine wpo_pass rfl rfl rfl h4000 rfl ?_
              iterate 3 refine wpo_passu rfl rfl rfl rfl ?_
              refine wpo_pass rfl rfl rfl h4000 rfl ?_
              refine wpo_run rfl rfl rfl rfl ?_
              refine wpo_pickt (v := .bool true) rfl h4000 rfl rfl ?_
              refine wpo_pickt (v := .bool true) rfl rfl rfl rfl ?_
              refine wpo_assign (v := .bool true) rfl rfl ?_
              exact wpo_nil ⟨(congrArg Value.bool (by first | (simp only [h3819, h3820, h3821, h3822, h3823, h3824, h3825, h3826, h3827, h3828, h3887, h3888, h3889, h3890, h3891, h3892, h3901, h3926, h3983, h3984, h3985, h3993, h3995, h4000, b0, b1, b2, b3, b4, b5, b6, b7, b8, b9]; done) | simp [h3819, h3820, h3821, h3822, h3823, h3824, h3825, h3826, h3827, h3828, h3887, h3888, h3889, h3890, h3891, h3892, h3901, h3926, h3983, h3984, h3985, h3993, h3995, h4000])), hg3998⟩
             ·
              refine wpo_run rfl rfl rfl h4000 ?_
              refine wpo_fieldAddr (o' := 0) fo_45_0 e3979 rfl rfl ?_
              refine wpo_run rfl rfl rfl h4000 ?_
              have k4001 := (k3992.grown0 hg3998)
              refine wpo_load1 (v := .int .i64 m.t.kind) ot_3 rfl (k4001.cell rfl) rfl ?_
              refine wpo_run rfl rfl rfl h4000 ?_
              refine wpo_neq (q := !(decide (m.t.kind = 5))) rfl rfl rfl rfl ?_
              refine wpo_run rfl rfl rfl h4000 ?_
              refine wpo_move (v := .bool (!(decide (m.t.kind = 5)))) rfl rfl ?_
              iterate 3 refine wpo_pass rfl rfl rfl (not_of_t h3995) rfl ?_
              refine wpo_run rfl rfl rfl h4000 ?_
              refine wpo_pickf (v := .bool false) rfl (not_of_t h3995) rfl rfl ?_
              refine wpo_run rfl rfl rfl rfl ?_
              refine wpo_pickf (v := .bool false) rfl h4000 rfl rfl ?_
              refine wpo_pickt (v := .bool false) rfl rfl rfl rfl ?_
              refine wpo_assign (v := .bool false) rfl rfl ?_
              exact wpo_nil ⟨(congrArg Value.bool (by first | (simp only [h3819, h3820, h3821, h3822, h3823, h3824, h3825, h3826, h3827, h3828, h3887, h3888, h3889, h3890, h3891, h3892, h3901, h3926, h3983, h3984, h3985, h3993, h3995, h4000, b0, b1, b2, b3, b4, b5, b6, b7, b8, b9]; done) | simp [h3819, h3820, h3821, h3822, h3823, h3824, h3825, h3826, h3827, h3828, h3887, h3888, h3889, h3890, h3891, h3892, h3901, h3926, h3983, h3984, h3985, h3993, h3995, h4000])), hg3998⟩
            ·
             have h4002 := of_decide_eq_false h3995
             iterate 3 refine wpo_pass rfl rfl rfl h3995 rfl ?_
             refine wpo_run rfl rfl rfl rfl ?_
             refine wpo_pickf (v := .bool false) rfl h3995 rfl rfl ?_
             refine wpo_run rfl rfl rfl rfl ?_
             refine wpo_move (v := .bool false) rfl rfl ?_
             refine wpo_run rfl rfl rfl rfl ?_
             refine wpo_fieldAddr (o' := 0) fo_45_0 e3979 rfl rfl ?_
             refine wpo_run rfl rfl rfl rfl ?_
             refine wpo_load1 (v := .int .i64 m.t.kind) ot_3 rfl (k3992.cell rfl) rfl ?_
             refine wpo_run rfl rfl rfl rfl ?_
             refine wpo_neq (q := !(decide (m.t.kind = 5))) rfl rfl rfl rfl ?_
             refine wpo_run rfl rfl rfl rfl ?_
             refine wpo_move (v := .bool (!(decide (m.t.kind = 5)))) rfl rfl ?_
             refine wpo_run rfl rfl rfl (not_of_f h3995) ?_
             refine wpo_fieldAddr (o' := 7) fo_45_6 e3979 rfl rfl ?_
             refine wpo_run rfl rfl rfl (not_of_f h3995) ?_
             refine wpo_load1 (v := .int .i64 m.t.to) ot_3 rfl (k3992.cell rfl) rfl ?_
             refine wpo_run rfl rfl rfl (not_of_f h3995) ?_
             refine wpo_eql (q := decide (m.t.to = 0)) rfl rfl rfl rfl ?_
             refine wpo_run rfl rfl rfl rfl ?_
             refine wpo_pickt (v := .bool (decide (m.t.to = 0))) rfl (not_of_f h3995) rfl rfl ?_
             refine wpo_run rfl rfl rfl rfl ?_
             refine wpo_pickf (v := .bool (decide (m.t.to = 0))) rfl rfl rfl rfl ?_
             refine wpo_pickt (v := .bool (decide (m.t.to = 0))) rfl rfl rfl rfl ?_
             refine wpo_assign (v := .bool (decide (m.t.to = 0))) rfl rfl ?_
             exact wpo_nil ⟨(congrArg Value.bool (by first | (simp only [h3819, h3820, h3821, h3822, h3823, h3824, h3825, h3826, h3827, h3828, h3887, h3888, h3889, h3890, h3891, h3892, h3901, h3926, h3983, h3984, h3985, h3993, h3995, b0, b1, b2, b3, b4, b5, b6, b7, b8, b9]; done) | simp [h3819, h3820, h3821, h3822, h3823, h3824, h3825, h3826, h3827, h3828, h3887, h3888, h3889, h3890, h3891, h3892, h3901, h3926, h3983, h3984, h3985, h3993, h3995])), (World.grownBy.refl _ _)⟩
           ·
            have h4003 := of_decide_eq_false h3993
            refine wpo_run rfl rfl rfl h3993 ?_
            refine wpo_fieldAddr (o' := 6) fo_45_5 e3979 rfl rfl ?_
            refine wpo_run rfl rfl rfl h3993 ?_
            refine wpo_load1 (v := .slice m.qa m.t.queue.length m.qc) ot_43 rfl (k3992.cell rfl) rfl ?_
            refine wpo_run rfl rfl rfl h3993 ?_
            refine wpo_len (by kernel_rfl) rfl rfl ?_
            refine wpo_run rfl rfl rfl h3993 ?_
            refine wpo_eql (q := decide ((m.t.queue.length : Int) = 0)) rfl rfl rfl rfl ?_
            refine wpo_pickf (v := .bool (decide ((m.t.queue.length : Int) = 0))) rfl h3993 rfl rfl ?_
            refine wpo_move (v := .bool (decide ((m.t.queue.length : Int) = 0))) rfl rfl ?_
            rcases bcases (decide ((m.t.queue.length : Int) = 0)) with h4004 | h4004
            ·
             have h4005 := of_decide_eq_true h4004
             refine wpo_run rfl rfl rfl h4004 ?_
             refine wpo_fieldAddr (o' := 0) fo_45_0 e3979 rfl rfl ?_
             refine wpo_run rfl rfl rfl h4004 ?_
             refine wpo_load1 (v := .int .i64 m.t.kind) ot_3 rfl (k3992.cell rfl) rfl ?_
             refine wpo_run rfl rfl rfl h4004 ?_
             refine wpo_eql (q := decide (m.t.kind = 5)) rfl rfl rfl rfl ?_
             refine wpo_run rfl rfl rfl h4004 ?_
             refine wpo_move (v := .bool (decide (m.t.kind = 5))) rfl rfl ?_
             rcases bcases (decide (m.t.kind = 5)) with h4006 | h4006
             ·
              have h4007 := of_decide_eq_true h4006
              refine wpo_run rfl rfl rfl h4006 ?_
              refine wpo_fieldAddr (o' := 7) fo_45_6 e3979 rfl rfl ?_
              refine wpo_run rfl rfl rfl h4006 ?_
              refine wpo_load1 (v := .int .i64 m.t.to) ot_3 rfl (k3992.cell rfl) rfl ?_
              refine wpo_run rfl rfl rfl h4006 ?_
              refine wpo_call (vs := [.int .i64 m.t.to, .int .i64 1, .int .i64 8]) gf_85 (args_cons rfl (args_cons rfl (args_cons rfl args_nil))) rfl (l6In_c m.t.to 1 8 _) ?_
              rintro _ w4008 ⟨rfl, hg4009⟩
              have hb4010 := low0 hb3982 hg4009
              refine wpo_run rfl rfl rfl h4004 ?_
              refine wpo_pickt (v := .bool (inR m.t.to 1 8)) rfl h4006 rfl rfl ?_
              refine wpo_run rfl rfl rfl h4004 ?_
              refine wpo_move (v := .bool (inR m.t.to 1 8)) rfl rfl ?_
              rcases bcases (inR m.t.to 1 8) with h4011 | h4011
              ·
               iterate 4 refine wpo_pass rfl rfl rfl h4011 rfl ?_
               iterate 3 refine wpo_passu rfl rfl rfl rfl ?_
               refine wpo_pass rfl rfl rfl h4011 rfl ?_
               refine wpo_run rfl rfl rfl h4004 ?_
               refine wpo_pickt (v := .bool true) rfl h4011 rfl rfl ?_
               refine wpo_pickt (v := .bool true) rfl h4004 rfl rfl ?_
               refine wpo_assign (v := .bool true) rfl rfl ?_
               exact wpo_nil ⟨(congrArg Value.bool (by first | (simp only [h3819, h3820, h3821, h3822, h3823, h3824, h3825, h3826, h3827, h3828, h3887, h3888, h3889, h3890, h3891, h3892, h3901, h3926, h3983, h3984, h3985, h3993, h4004, h4006, h4011, b0, b1, b2, b3, b4, b5, b6, b7, b8, b9]; done) | simp [h3819, h3820, h3821, h3822, h3823, h3824, h3825, h3826, h3827, h3828, h3887, h3888, h3889, h3890, h3891, h3892, h3901, h3926, h3983, h3984, h3985, h3993, h4004, h4006, h4011])), hg4009⟩
              ·
               refine wpo_run rfl rfl rfl h4011 ?_
               refine wpo_fieldAddr (o' := 0) fo_45_0 e3979 rfl rfl ?_
               refine wpo_run rfl rfl rfl h4011 ?_
               have k4012 := (k3992.grown0 hg4009)
               refine wpo_load1 (v := .int .i64 m.t.kind) ot_3 rfl (k4012.cell rfl) rfl ?_
               refine wpo_run rfl rfl rfl h4011 ?_
               refine wpo_neq (q := !(decide (m.t.kind = 5))) rfl rfl rfl rfl ?_
               refine wpo_run rfl rfl rfl h4011 ?_
               refine wpo_move (v := .bool (!(decide (m.t.kind = 5)))) rfl rfl ?_
               iterate 3 refine wpo_pass rfl rfl rfl (not_of_t h4006) rfl ?_
               refine wpo_run rfl rfl rfl h4011 ?_
               refine wpo_pickf (v := .bool false) rfl (not_of_t h4006) rfl rfl ?_
               refine wpo_run rfl rfl rfl h4004 ?_
               refine wpo_pickf (v := .bool false) rfl h4011 rfl rfl ?_
               refine wpo_pickt (v := .bool false) rfl h4004 rfl rfl ?_
               refine wpo_assign (v := .bool false) rfl rfl ?_
               exact wpo_nil ⟨(congrArg Value.bool (by first | (simp only [h3819, h3820, h3821, h3822, h3823, h3824, h3825, h3826, h3827, h3828, h3887, h3888, h3889, h3890, h3891, h3892, h3901, h3926, h3983, h3984, h3985, h3993, h4004, h4006, h4011, b0, b1, b2, b3, b4, b5, b6, b7, b8, b9]; done) | simp [h3819, h3820, h3821, h3822, h3823, h3824, h3825, h3826, h3827, h3828, h3887, h3888, h3889, h3890, h3891, h3892, h3901, h3926, h3983, h3984, h3985, h3993, h4004, h4006, h4011])), hg4009⟩
             ·
              have h4013 := of_decide_eq_false h4006
              iterate 3 refine wpo_pass rfl rfl rfl h4006 rfl ?_
              refine wpo_run rfl rfl rfl h4004 ?_
              refine wpo_pickf (v := .bool false) rfl h4006 rfl rfl ?_
              refine wpo_run rfl rfl rfl h4004 ?_
              refine wpo_move (v := .bool false) rfl rfl ?_
              refine wpo_run rfl rfl rfl rfl ?_
              refine wpo_fieldAddr (o' := 0) fo_45_0 e3979 rfl rfl ?_
              refine wpo_run rfl rfl rfl rfl ?_
              refine wpo_load1 (v := .int .i64 m.t.kind) ot_3 rfl (k3992.cell rfl) rfl ?_
              refine wpo_run rfl rfl rfl rfl ?_
              refine wpo_neq (q := !(decide (m.t.kind = 5))) rfl rfl rfl rfl ?_
              refine wpo_run rfl rfl rfl rfl ?_
              refine wpo_move (v := .bool (!(decide (m.t.kind = 5)))) rfl rfl ?_
              refine wpo_run rfl rfl rfl (not_of_f h4006) ?_
              refine wpo_fieldAddr (o' := 7) fo_45_6 e3979 rfl rfl ?_
              refine wpo_run rfl rfl rfl (not_of_f h4006) ?_
              refine wpo_load1 (v := .int .i64 m.t.to) ot_3 rfl (k3992.cell rfl) rfl ?_
              refine wpo_run rfl rfl rfl (not_of_f h4006) ?_
              refine wpo_eql (q := decide (m.t.to = 0)) rfl rfl rfl rfl ?_
              refine wpo_run rfl rfl rfl rfl ?_
              refine wpo_pickt (v := .bool (decide (m.t.to = 0))) rfl (not_of_f h4006) rfl rfl ?_
              refine wpo_run rfl rfl rfl h4004 ?_
              refine wpo_pickf (v := .bool (decide (m.t.to = 0))) rfl rfl rfl rfl ?_
              refine wpo_pickt (v := .bool (decide (m.t.to = 0))) rfl h4004 rfl rfl ?_
              refine wpo_assign (v := .bool (decide (m.t.to = 0))) rfl rfl ?_
              exact wpo_nil ⟨(congrArg Value.bool (by first | (simp only [h3819, h3820, h3821, h3822, h3823, h3824, h3825, h3826, h3827, h3828, h3887, h3888, h3889, h3890, h3891, h3892, h3901, h3926, h3983, h3984, h3985, h3993, h4004, h4006, b0, b1, b2, b3, b4, b5, b6, b7, b8, b9]; done) | simp [h3819, h3820, h3821, h3822, h3823, h3824, h3825, h3826, h3827, h3828, h3887, h3888, h3889, h3890, h3891, h3892, h3901, h3926, h3983, h3984, h3985, h3993, h4004, h4006])), (World.grownBy.refl _ _)⟩
            ·
             have h4014 := of_decide_eq_false h4004
             iterate 4 refine wpo_pass rfl rfl rfl h4004 rfl ?_
             iterate 3 refine wpo_passu rfl rfl rfl rfl ?_
             refine wpo_pass rfl rfl rfl h4004 rfl ?_
             refine wpo_pass rfl rfl rfl h4004 rfl ?_
             iterate 8 refine wpo_passu rfl rfl rfl rfl ?_
             refine wpo_pass rfl rfl rfl h4004 rfl ?_
             refine wpo_pickf (v := .bool false) rfl h4004 rfl rfl ?_
             refine wpo_assign (v := .bool false) rfl rfl ?_
             exact wpo_nil ⟨(congrArg Value.bool (by first | (simp only [h3819, h3820, h3821, h3822, h3823, h3824, h3825, h3826, h3827, h3828, h3887, h3888, h3889, h3890, h3891, h3892, h3901, h3926, h3983, h3984, h3985, h3993, h4004, b0, b1, b2, b3, b4, b5, b6, b7, b8, b9]; done) | simp [h3819, h3820, h3821, h3822, h3823, h3824, h3825, h3826, h3827, h3828, h3887, h3888, h3889, h3890, h3891, h3892, h3901, h3926, h3983, h3984, h3985, h3993, h4004])), (World.grownBy.refl _ _)⟩
          ·
           rintro f4015 w4016 ⟨e4017, hg4018⟩
           have hb4019 := low0 hb3982 hg4018
           refine wpf_ret ?_
           refine ⟨.bool (((decide (m.t.kind = 4)) || (decide ((m.t.queue.length : Int) = 0))) && (((decide (m.t.kind = 5)) && inR m.t.to 1 8) || ((!(decide (m.t.kind = 5))) && (decide (m.t.to = 0))))), res1 rfl e4017, ?_, hb4019⟩
           exact congrArg Value.bool (th_e h3819 h3887 (all_of_take (p := numQ) ha (by omega)) (all_of_take (p := rightOk) hb (by omega)) h3983)

end Go.Proofs.Ytlkmdoebmklbbaa
