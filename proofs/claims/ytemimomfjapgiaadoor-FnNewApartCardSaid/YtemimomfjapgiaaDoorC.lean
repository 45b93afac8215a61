/- Walks, printed by a program of mine (gen.py) out of the functions. -/
import Derived.Test.YtemimomfjapgiaaDoorG
import Derived.Test.YtemimomfjapgiaaDoorN
namespace Go.Proofs.YtemimomfjapgiaaDoor
open Go.RowKit Go.Dw
set_option maxRecDepth 100000
set_option maxHeartbeats 4000000
set_option linter.unusedSimpArgs false
set_option linter.unusedVariables false
theorem at_44 : arrTy Tryd.prog 44 = some (4, 39, 5) := by kernel_rfl
theorem es_28 : elemSz Tryd.prog 28 = some 5 := by kernel_rfl
theorem fo_31_0 : fieldOff Tryd.prog 31 0 = some 0 := by kernel_rfl
theorem fo_31_1 : fieldOff Tryd.prog 31 1 = some 1 := by kernel_rfl
theorem fo_31_2 : fieldOff Tryd.prog 31 2 = some 3 := by kernel_rfl
theorem fo_31_3 : fieldOff Tryd.prog 31 3 = some 4 := by kernel_rfl
theorem fo_31_4 : fieldOff Tryd.prog 31 4 = some 5 := by kernel_rfl
theorem fo_31_5 : fieldOff Tryd.prog 31 5 = some 6 := by kernel_rfl
theorem fo_31_6 : fieldOff Tryd.prog 31 6 = some 7 := by kernel_rfl
theorem gf_19 : goFn Tryd.prog 19 = true := by kernel_rfl
theorem gf_23 : goFn Tryd.prog 23 = true := by kernel_rfl
theorem gf_35 : goFn Tryd.prog 35 = true := by kernel_rfl
theorem gf_36 : goFn Tryd.prog 36 = true := by kernel_rfl
theorem gf_37 : goFn Tryd.prog 37 = true := by kernel_rfl
theorem gf_38 : goFn Tryd.prog 38 = true := by kernel_rfl
theorem gf_39 : goFn Tryd.prog 39 = true := by kernel_rfl
theorem gf_40 : goFn Tryd.prog 40 = true := by kernel_rfl
theorem gf_44 : goFn Tryd.prog 44 = true := by kernel_rfl
theorem gf_51 : goFn Tryd.prog 51 = true := by kernel_rfl
theorem gf_52 : goFn Tryd.prog 52 = true := by kernel_rfl
theorem ot_28 : oneTy Tryd.prog 28 = true := by kernel_rfl
theorem ot_29 : oneTy Tryd.prog 29 = true := by kernel_rfl
theorem rt_27 : rowTy Tryd.prog 27 = some 2 := by kernel_rfl
theorem rt_31 : rowTy Tryd.prog 31 = some 8 := by kernel_rfl
theorem rt_44 : rowTy Tryd.prog 44 = some 20 := by kernel_rfl
theorem versOk_c (m : MTh) (w : World) : CallsR Tryd.prog 36 #[.agg #[.int .i64 m.t.kind, .int .i64 m.t.lab.s, .int .i64 m.t.lab.v, .int .i64 m.t.ve, .int .i64 m.t.num, .slice m.sa m.t.slots.length m.sc, .slice m.qa m.t.queue.length m.qc, .int .i64 m.t.to]] w (fun v w' => v = .bool (versOk m.t) ∧ w.grownBy w' none) := by
 refine calls_of_wpf (n := 15) Tryd.func36 rfl Tryd.ntmps36 rfl ?_
 have hb0 := World.grownBy.refl w none
 refine wpf_seq_region ?_
 refine wpo_box (v := .agg #[.int .i64 m.t.kind, .int .i64 m.t.lab.s, .int .i64 m.t.lab.v, .int .i64 m.t.ve, .int .i64 m.t.num, .slice m.sa m.t.slots.length m.sc, .slice m.qa m.t.queue.length m.qc, .int .i64 m.t.to]) (cs := #[.int .i64 m.t.kind, .int .i64 m.t.lab.s, .int .i64 m.t.lab.v, .int .i64 m.t.ve, .int .i64 m.t.num, .slice m.sa m.t.slots.length m.sc, .slice m.qa m.t.queue.length m.qc, .int .i64 m.t.to]) rfl rfl rfl ?_
 intro B101 w102 hN103
 have hlB101 := hN_ge hN103 hb0
 have hb104 := low0 hb0 hN103.grw
 refine wpo_assign (v := .bool false) rfl rfl ?_
 refine wpo_nil ?_
 refine wpf_seq ?_
 refine wpf_seq_region ?_
 refine wpo_fieldAddr (o' := 0) fo_31_0 rfl rfl rfl ?_
 refine wpo_load1 (v := .int .i64 m.t.kind) ot_3 rfl (hN103.blk.cell rfl) rfl ?_
 refine wpo_nil ?_
 refine wpf_block ?_
 refine wpf_seq ?_
 refine wpf_seq_region ?_
 refine wpo_eql (q := decide (m.t.kind = 1)) rfl rfl rfl rfl ?_
 refine wpo_assign (v := .bool (decide (m.t.kind = 1))) rfl rfl ?_
 refine wpo_nil ?_
 refine wpf_cond rfl (fun h105 => ?_) (fun h105 => ?_)
 ·
  have h106 := of_decide_eq_true h105
  refine wpf_skip ?_
  refine thn_n ?_
  refine wpf_condt rfl h105 ?_
  refine wpf_seq_region ?_
  refine wpo_fieldAddr (o' := 3) fo_31_2 rfl rfl rfl ?_
  refine wpo_load1 (v := .int .i64 m.t.ve) ot_3 rfl (hN103.blk.cell rfl) rfl ?_
  refine wpo_call (vs := [.int .i64 m.t.ve, .int .i64 0, .int .i64 5]) gf_19 (args_cons rfl (args_cons rfl (args_cons rfl args_nil))) rfl (inRange_c m.t.ve 0 5 _) ?_
  rintro _ w107 ⟨rfl, hg108⟩
  have hb109 := low0 hb104 hg108
  refine wpo_assign (v := .bool (inR m.t.ve 0 5)) rfl rfl ?_
  refine wpo_nil ?_
  refine wpf_ret ?_
  refine blk_r ?_
  refine thn_r ?_
  refine ⟨.bool (inR m.t.ve 0 5), res1 rfl rfl, ?_, hb109⟩
  first | (simp [versOk, h106]; done) | (simp [versOk, h106]; omega) | (simp [versOk, h106]; intros; omega)
 ·
  have h110 := of_decide_eq_false h105
  refine wpf_seq_region ?_
  refine wpo_eql (q := decide (m.t.kind = 2)) rfl rfl rfl rfl ?_
  refine wpo_assign (v := .bool (decide (m.t.kind = 2))) rfl rfl ?_
  refine wpo_nil ?_
  refine wpf_cond rfl (fun h111 => ?_) (fun h111 => ?_)
  ·
   have h112 := of_decide_eq_true h111
   refine wpf_skip ?_
   refine thn_n ?_
   refine wpf_condt rfl h111 ?_
   refine wpf_seq_region ?_
   refine wpo_fieldAddr (o' := 3) fo_31_2 rfl rfl rfl ?_
   refine wpo_load1 (v := .int .i64 m.t.ve) ot_3 rfl (hN103.blk.cell rfl) rfl ?_
   refine wpo_call (vs := [.int .i64 m.t.ve, .int .i64 0, .int .i64 5]) gf_19 (args_cons rfl (args_cons rfl (args_cons rfl args_nil))) rfl (inRange_c m.t.ve 0 5 _) ?_
   rintro _ w113 ⟨rfl, hg114⟩
   have hb115 := low0 hb104 hg114
   refine wpo_assign (v := .bool (inR m.t.ve 0 5)) rfl rfl ?_
   refine wpo_nil ?_
   refine wpf_ret ?_
   refine blk_r ?_
   refine thn_r ?_
   refine ⟨.bool (inR m.t.ve 0 5), res1 rfl rfl, ?_, hb115⟩
   first | (simp [versOk, h110, h112]; done) | (simp [versOk, h110, h112]; omega) | (simp [versOk, h110, h112]; intros; omega)
  ·
   have h116 := of_decide_eq_false h111
   refine wpf_region ?_
   refine wpo_eql (q := decide (m.t.kind = 4)) rfl rfl rfl rfl ?_
   refine wpo_assign (v := .bool (decide (m.t.kind = 4))) rfl rfl ?_
   refine wpo_nil ?_
   refine thn_n ?_
   refine wpf_cond rfl (fun h117 => ?_) (fun h117 => ?_)
   ·
    have h118 := of_decide_eq_true h117
    refine wpf_seq_region ?_
    refine wpo_fieldAddr (o' := 3) fo_31_2 rfl rfl rfl ?_
    refine wpo_load1 (v := .int .i64 m.t.ve) ot_3 rfl (hN103.blk.cell rfl) rfl ?_
    refine wpo_call (vs := [.int .i64 m.t.ve, .int .i64 0, .int .i64 5]) gf_19 (args_cons rfl (args_cons rfl (args_cons rfl args_nil))) rfl (inRange_c m.t.ve 0 5 _) ?_
    rintro _ w119 ⟨rfl, hg120⟩
    have hb121 := low0 hb104 hg120
    refine wpo_assign (v := .bool (inR m.t.ve 0 5)) rfl rfl ?_
    refine wpo_nil ?_
    refine wpf_ret ?_
    refine blk_r ?_
    refine thn_r ?_
    refine ⟨.bool (inR m.t.ve 0 5), res1 rfl rfl, ?_, hb121⟩
    first | (simp [versOk, h110, h116, h118]; done) | (simp [versOk, h110, h116, h118]; omega) | (simp [versOk, h110, h116, h118]; intros; omega)
   ·
    have h122 := of_decide_eq_false h117
    refine wpf_skip ?_
    refine blk_n ?_
    refine thn_n ?_
    refine wpf_seq_region ?_
    refine wpo_fieldAddr (o' := 3) fo_31_2 rfl rfl rfl ?_
    refine wpo_load1 (v := .int .i64 m.t.ve) ot_3 rfl (hN103.blk.cell rfl) rfl ?_
    refine wpo_eql (q := decide (m.t.ve = 0)) rfl rfl rfl rfl ?_
    refine wpo_assign (v := .bool (decide (m.t.ve = 0))) rfl rfl ?_
    refine wpo_nil ?_
    refine wpf_ret ?_
    refine ⟨.bool (decide (m.t.ve = 0)), res1 rfl rfl, ?_, hb104⟩
    first | (simp [versOk, h110, h116, h122]; done) | (simp [versOk, h110, h116, h122]; omega) | (simp [versOk, h110, h116, h122]; intros; omega)

theorem numOk_c (m : MTh) (w : World) : CallsR Tryd.prog 37 #[.agg #[.int .i64 m.t.kind, .int .i64 m.t.lab.s, .int .i64 m.t.lab.v, .int .i64 m.t.ve, .int .i64 m.t.num, .slice m.sa m.t.slots.length m.sc, .slice m.qa m.t.queue.length m.qc, .int .i64 m.t.to]] w (fun v w' => v = .bool (numOk m.t) ∧ w.grownBy w' none) := by
 refine calls_of_wpf (n := 19) Tryd.func37 rfl Tryd.ntmps37 rfl ?_
 have hb0 := World.grownBy.refl w none
 refine wpf_seq_region ?_
 refine wpo_box (v := .agg #[.int .i64 m.t.kind, .int .i64 m.t.lab.s, .int .i64 m.t.lab.v, .int .i64 m.t.ve, .int .i64 m.t.num, .slice m.sa m.t.slots.length m.sc, .slice m.qa m.t.queue.length m.qc, .int .i64 m.t.to]) (cs := #[.int .i64 m.t.kind, .int .i64 m.t.lab.s, .int .i64 m.t.lab.v, .int .i64 m.t.ve, .int .i64 m.t.num, .slice m.sa m.t.slots.length m.sc, .slice m.qa m.t.queue.length m.qc, .int .i64 m.t.to]) rfl rfl rfl ?_
 intro B101 w102 hN103
 have hlB101 := hN_ge hN103 hb0
 have hb104 := low0 hb0 hN103.grw
 refine wpo_assign (v := .bool false) rfl rfl ?_
 refine wpo_nil ?_
 refine wpf_seq ?_
 refine wpf_seq_region ?_
 refine wpo_fieldAddr (o' := 0) fo_31_0 rfl rfl rfl ?_
 refine wpo_load1 (v := .int .i64 m.t.kind) ot_3 rfl (hN103.blk.cell rfl) rfl ?_
 refine wpo_nil ?_
 refine wpf_block ?_
 refine wpf_seq ?_
 refine wpf_seq_region ?_
 refine wpo_eql (q := decide (m.t.kind = 1)) rfl rfl rfl rfl ?_
 refine wpo_assign (v := .bool (decide (m.t.kind = 1))) rfl rfl ?_
 refine wpo_nil ?_
 refine wpf_cond rfl (fun h105 => ?_) (fun h105 => ?_)
 ·
  have h106 := of_decide_eq_true h105
  refine wpf_skip ?_
  refine thn_n ?_
  refine wpf_condt rfl h105 ?_
  refine wpf_seq_region ?_
  refine wpo_fieldAddr (o' := 4) fo_31_3 rfl rfl rfl ?_
  refine wpo_load1 (v := .int .i64 m.t.num) ot_3 rfl (hN103.blk.cell rfl) rfl ?_
  refine wpo_call (vs := [.int .i64 m.t.num, .int .i64 0, .int .i64 99]) gf_19 (args_cons rfl (args_cons rfl (args_cons rfl args_nil))) rfl (inRange_c m.t.num 0 99 _) ?_
  rintro _ w107 ⟨rfl, hg108⟩
  have hb109 := low0 hb104 hg108
  refine wpo_assign (v := .bool (inR m.t.num 0 99)) rfl rfl ?_
  refine wpo_nil ?_
  refine wpf_ret ?_
  refine blk_r ?_
  refine thn_r ?_
  refine ⟨.bool (inR m.t.num 0 99), res1 rfl rfl, ?_, hb109⟩
  first | (simp [numOk, h106]; done) | (simp [numOk, h106]; omega) | (simp [numOk, h106]; intros; omega)
 ·
  have h110 := of_decide_eq_false h105
  refine wpf_region ?_
  refine wpo_eql (q := decide (m.t.kind = 5)) rfl rfl rfl rfl ?_
  refine wpo_assign (v := .bool (decide (m.t.kind = 5))) rfl rfl ?_
  refine wpo_nil ?_
  refine thn_n ?_
  refine wpf_cond rfl (fun h111 => ?_) (fun h111 => ?_)
  ·
   have h112 := of_decide_eq_true h111
   refine wpf_seq_region ?_
   refine wpo_fieldAddr (o' := 4) fo_31_3 rfl rfl rfl ?_
   refine wpo_load1 (v := .int .i64 m.t.num) ot_3 rfl (hN103.blk.cell rfl) rfl ?_
   refine wpo_call (vs := [.int .i64 m.t.num, .int .i64 0, .int .i64 99]) gf_19 (args_cons rfl (args_cons rfl (args_cons rfl args_nil))) rfl (inRange_c m.t.num 0 99 _) ?_
   rintro _ w113 ⟨rfl, hg114⟩
   have hb115 := low0 hb104 hg114
   refine wpo_assign (v := .bool (inR m.t.num 0 99)) rfl rfl ?_
   refine wpo_nil ?_
   refine wpf_ret ?_
   refine blk_r ?_
   refine thn_r ?_
   refine ⟨.bool (inR m.t.num 0 99), res1 rfl rfl, ?_, hb115⟩
   first | (simp [numOk, h110, h112]; done) | (simp [numOk, h110, h112]; omega) | (simp [numOk, h110, h112]; intros; omega)
  ·
   have h116 := of_decide_eq_false h111
   refine wpf_seq_region ?_
   refine wpo_eql (q := decide (m.t.kind = 3)) rfl rfl rfl rfl ?_
   refine wpo_assign (v := .bool (decide (m.t.kind = 3))) rfl rfl ?_
   refine wpo_nil ?_
   refine wpf_cond rfl (fun h117 => ?_) (fun h117 => ?_)
   ·
    have h118 := of_decide_eq_true h117
    refine wpf_seq_region ?_
    refine wpo_fieldAddr (o' := 4) fo_31_3 rfl rfl rfl ?_
    refine wpo_load1 (v := .int .i64 m.t.num) ot_3 rfl (hN103.blk.cell rfl) rfl ?_
    refine wpo_call (vs := [.int .i64 m.t.num, .int .i64 (-4), .int .i64 99]) gf_19 (args_cons rfl (args_cons rfl (args_cons rfl args_nil))) rfl (inRange_c m.t.num (-4) 99 _) ?_
    rintro _ w119 ⟨rfl, hg120⟩
    have hb121 := low0 hb104 hg120
    refine wpo_assign (v := .bool (inR m.t.num (-4) 99)) rfl rfl ?_
    refine wpo_nil ?_
    refine wpf_ret ?_
    refine blk_r ?_
    refine thn_r ?_
    refine ⟨.bool (inR m.t.num (-4) 99), res1 rfl rfl, ?_, hb121⟩
    first | (simp [numOk, h110, h116, h118]; done) | (simp [numOk, h110, h116, h118]; omega) | (simp [numOk, h110, h116, h118]; intros; omega)
   ·
    have h122 := of_decide_eq_false h117
    refine wpf_skip ?_
    refine blk_n ?_
    refine thn_n ?_
    refine wpf_seq_region ?_
    refine wpo_fieldAddr (o' := 4) fo_31_3 rfl rfl rfl ?_
    refine wpo_load1 (v := .int .i64 m.t.num) ot_3 rfl (hN103.blk.cell rfl) rfl ?_
    refine wpo_eql (q := decide (m.t.num = 0)) rfl rfl rfl rfl ?_
    refine wpo_assign (v := .bool (decide (m.t.num = 0))) rfl rfl ?_
    refine wpo_nil ?_
    refine wpf_ret ?_
    refine ⟨.bool (decide (m.t.num = 0)), res1 rfl rfl, ?_, hb104⟩
    first | (simp [numOk, h110, h116, h122]; done) | (simp [numOk, h110, h116, h122]; omega) | (simp [numOk, h110, h116, h122]; intros; omega)

theorem targetOk_c (m : MTh) (w : World) : CallsR Tryd.prog 40 #[.agg #[.int .i64 m.t.kind, .int .i64 m.t.lab.s, .int .i64 m.t.lab.v, .int .i64 m.t.ve, .int .i64 m.t.num, .slice m.sa m.t.slots.length m.sc, .slice m.qa m.t.queue.length m.qc, .int .i64 m.t.to]] w (fun v w' => v = .bool (targetOk m.t) ∧ w.grownBy w' none) := by
 refine calls_of_wpf (n := 12) Tryd.func40 rfl Tryd.ntmps40 rfl ?_
 have hb0 := World.grownBy.refl w none
 refine wpf_seq_region ?_
 refine wpo_box (v := .agg #[.int .i64 m.t.kind, .int .i64 m.t.lab.s, .int .i64 m.t.lab.v, .int .i64 m.t.ve, .int .i64 m.t.num, .slice m.sa m.t.slots.length m.sc, .slice m.qa m.t.queue.length m.qc, .int .i64 m.t.to]) (cs := #[.int .i64 m.t.kind, .int .i64 m.t.lab.s, .int .i64 m.t.lab.v, .int .i64 m.t.ve, .int .i64 m.t.num, .slice m.sa m.t.slots.length m.sc, .slice m.qa m.t.queue.length m.qc, .int .i64 m.t.to]) rfl rfl rfl ?_
 intro B101 w102 hN103
 have hlB101 := hN_ge hN103 hb0
 have hb104 := low0 hb0 hN103.grw
 refine wpo_assign (v := .bool false) rfl rfl ?_
 refine wpo_nil ?_
 refine wpf_seq ?_
 refine wpf_seq_region ?_
 refine wpo_fieldAddr (o' := 0) fo_31_0 rfl rfl rfl ?_
 refine wpo_load1 (v := .int .i64 m.t.kind) ot_3 rfl (hN103.blk.cell rfl) rfl ?_
 refine wpo_eql (q := decide (m.t.kind = 5)) rfl rfl rfl rfl ?_
 refine wpo_nil ?_
 refine wpf_cond rfl (fun h105 => ?_) (fun h105 => ?_)
 ·
  have h106 := of_decide_eq_true h105
  refine wpf_seq_region ?_
  refine wpo_fieldAddr (o' := 7) fo_31_6 rfl rfl rfl ?_
  refine wpo_load1 (v := .int .i64 m.t.to) ot_3 rfl (hN103.blk.cell rfl) rfl ?_
  refine wpo_call (vs := [.int .i64 m.t.to, .int .i64 1, .int .i64 8]) gf_19 (args_cons rfl (args_cons rfl (args_cons rfl args_nil))) rfl (inRange_c m.t.to 1 8 _) ?_
  rintro _ w107 ⟨rfl, hg108⟩
  have hb109 := low0 hb104 hg108
  refine wpo_assign (v := .bool (inR m.t.to 1 8)) rfl rfl ?_
  refine wpo_nil ?_
  refine wpf_ret ?_
  refine thn_r ?_
  refine ⟨.bool (inR m.t.to 1 8), res1 rfl rfl, ?_, hb109⟩
  first | (simp [targetOk, h106]; done) | (simp [targetOk, h106]; omega) | (simp [targetOk, h106]; intros; omega)
 ·
  have h110 := of_decide_eq_false h105
  refine wpf_skip ?_
  refine thn_n ?_
  refine wpf_seq_region ?_
  refine wpo_fieldAddr (o' := 7) fo_31_6 rfl rfl rfl ?_
  refine wpo_load1 (v := .int .i64 m.t.to) ot_3 rfl (hN103.blk.cell rfl) rfl ?_
  refine wpo_eql (q := decide (m.t.to = 0)) rfl rfl rfl rfl ?_
  refine wpo_assign (v := .bool (decide (m.t.to = 0))) rfl rfl ?_
  refine wpo_nil ?_
  refine wpf_ret ?_
  refine ⟨.bool (decide (m.t.to = 0)), res1 rfl rfl, ?_, hb104⟩
  first | (simp [targetOk, h110]; done) | (simp [targetOk, h110]; omega) | (simp [targetOk, h110]; intros; omega)

theorem queueOk_c (m : MTh) (w : World) (hs : SlAt w m.sa 5 (m.t.slots.map Rt.cells)) (hq : SlAt w m.qa 1 (m.t.queue.map icell)) (hsl : m.t.slots.length ≤ 9223372036854775806) (hql : m.t.queue.length ≤ 9223372036854775806) : CallsR Tryd.prog 39 #[.agg #[.int .i64 m.t.kind, .int .i64 m.t.lab.s, .int .i64 m.t.lab.v, .int .i64 m.t.ve, .int .i64 m.t.num, .slice m.sa m.t.slots.length m.sc, .slice m.qa m.t.queue.length m.qc, .int .i64 m.t.to]] w (fun v w' => v = .bool (queueOk m.t) ∧ w.grownBy w' none) := by
 refine calls_of_wpf (n := 27) Tryd.func39 rfl Tryd.ntmps39 rfl ?_
 have hb0 := World.grownBy.refl w none
 refine wpf_seq_region ?_
 refine wpo_box (v := .agg #[.int .i64 m.t.kind, .int .i64 m.t.lab.s, .int .i64 m.t.lab.v, .int .i64 m.t.ve, .int .i64 m.t.num, .slice m.sa m.t.slots.length m.sc, .slice m.qa m.t.queue.length m.qc, .int .i64 m.t.to]) (cs := #[.int .i64 m.t.kind, .int .i64 m.t.lab.s, .int .i64 m.t.lab.v, .int .i64 m.t.ve, .int .i64 m.t.num, .slice m.sa m.t.slots.length m.sc, .slice m.qa m.t.queue.length m.qc, .int .i64 m.t.to]) rfl rfl rfl ?_
 intro B101 w102 hN103
 have hlB101 := hN_ge hN103 hb0
 have hb104 := low0 hb0 hN103.grw
 refine wpo_assign (v := .bool false) rfl rfl ?_
 refine wpo_nil ?_
 refine wpf_seq ?_
 refine wpf_seq_region ?_
 refine wpo_fieldAddr (o' := 0) fo_31_0 rfl rfl rfl ?_
 refine wpo_load1 (v := .int .i64 m.t.kind) ot_3 rfl (hN103.blk.cell rfl) rfl ?_
 refine wpo_neq (q := !(decide (m.t.kind = 4))) rfl rfl rfl rfl ?_
 refine wpo_nil ?_
 refine wpf_cond rfl (fun h105 => ?_) (fun h105 => ?_)
 ·
  have h106 := nt_t h105
  have h107 := of_decide_eq_false h106
  refine wpf_seq_region ?_
  refine wpo_fieldAddr (o' := 6) fo_31_5 rfl rfl rfl ?_
  refine wpo_load1 (v := .slice m.qa m.t.queue.length m.qc) ot_29 rfl (hN103.blk.cell rfl) rfl ?_
  refine wpo_len (by kernel_rfl) rfl rfl ?_
  refine wpo_eql (q := decide ((m.t.queue.length : Int) = 0)) rfl rfl rfl rfl ?_
  refine wpo_assign (v := .bool (decide ((m.t.queue.length : Int) = 0))) rfl rfl ?_
  refine wpo_nil ?_
  refine wpf_ret ?_
  refine thn_r ?_
  refine ⟨.bool (decide ((m.t.queue.length : Int) = 0)), res1 rfl rfl, ?_, hb104⟩
  first | (simp [queueOk, h107]; done) | (simp [queueOk, h107]; omega) | (simp [queueOk, h107]; intros; omega)
 ·
  have h108 := nt_f h105
  have h109 := of_decide_eq_true h108
  refine wpf_skip ?_
  refine thn_n ?_
  refine wpf_seq ?_
  refine wpf_seq_region ?_
  refine wpo_fieldAddr (o' := 6) fo_31_5 rfl rfl rfl ?_
  refine wpo_load1 (v := .slice m.qa m.t.queue.length m.qc) ot_29 rfl (hN103.blk.cell rfl) rfl ?_
  refine wpo_len (by kernel_rfl) rfl rfl ?_
  refine wpo_gtr (q := decide (3 < (m.t.queue.length : Int))) rfl rfl rfl rfl ?_
  refine wpo_nil ?_
  refine wpf_cond rfl (fun h110 => ?_) (fun h110 => ?_)
  ·
   have h111 := of_decide_eq_true h110
   refine wpf_seq_region ?_
   refine wpo_assign (v := .bool false) rfl rfl ?_
   refine wpo_nil ?_
   refine wpf_ret ?_
   refine thn_r ?_
   refine ⟨.bool false, res1 rfl rfl, ?_, hb104⟩
   first | (simp [queueOk, h109, h111]; done) | (simp [queueOk, h109, h111]; omega) | (simp [queueOk, h109, h111]; intros; omega)
  ·
   have h112 := of_decide_eq_false h110
   refine wpf_skip ?_
   refine thn_n ?_
   refine wpf_seq ?_
   refine wpf_seq_region ?_
   refine wpo_fieldAddr (o' := 6) fo_31_5 rfl rfl rfl ?_
   refine wpo_load1 (v := .slice m.qa m.t.queue.length m.qc) ot_29 rfl (hN103.blk.cell rfl) rfl ?_
   refine wpo_len (by kernel_rfl) rfl rfl ?_
   refine wpo_move (v := .int .i64 0) rfl rfl ?_
   refine wpo_nil ?_
   refine wpf_block ?_
   refine wpf_loopN (fun mm f' w' => ∃ (k : Nat), mm = m.t.queue.length - k ∧ k ≤ m.t.queue.length ∧ ((m.t.queue.take k).all numQ) = true ∧ f' 19 = .int .i64 (k : Int) ∧ f' 17 = .slice m.qa m.t.queue.length m.qc ∧ f' 18 = .int .i64 (m.t.queue.length : Int) ∧ w.grownBy w' none) (m.t.queue.length - 0) ⟨0, rfl, (Nat.zero_le _), rfl, rfl, rfl, rfl, hb104⟩ ?_
   rintro mm f113 w114 ⟨k, hm116, hk, ha, e117, e118, e119, hb115⟩
   refine wpf_seq_region ?_
   refine wpo_lss (q := decide ((k : Int) < (m.t.queue.length : Int))) e117 e119 rfl rfl ?_
   refine wpo_nil ?_
   refine wpf_seq ?_
   refine wpf_cond rfl (fun h120 => ?_) (fun h120 => ?_)
   ·
    have h121 := of_decide_eq_true h120
    refine wpf_skip ?_
    refine thn_n ?_
    refine wpf_seq ?_
    refine wpf_block ?_
    refine wpf_seq_region ?_
    obtain ⟨x122, hx123⟩ := get_lt (l := m.t.queue) (i := k) (by omega)
    obtain ⟨b124, q125, o126, ha127, ho128, hr129⟩ := SlAt.at hq (map_get hx123)
    refine wpo_indexE es_29 e118 e117 ha127 ho128 (by omega) (by omega) rfl ?_
    refine wpo_load1 (v := .int .i64 x122) ot_3 rfl ((range_low hr129 hb115) 0 _ rfl) rfl ?_
    refine wpo_assign (v := .int .i64 x122) rfl rfl ?_
    refine wpo_nil ?_
    refine wpf_seq_region ?_
    refine wpo_move (v := .int .i64 x122) rfl rfl ?_
    refine wpo_call (vs := [.int .i64 x122, .int .i64 0, .int .i64 99]) gf_19 (args_cons rfl (args_cons rfl (args_cons rfl args_nil))) rfl (inRange_c x122 0 99 _) ?_
    rintro _ w130 ⟨rfl, hg131⟩
    have hb132 := low0 hb115 hg131
    refine wpo_not (b' := !inR x122 0 99) rfl rfl rfl ?_
    refine wpo_nil ?_
    refine wpf_cond rfl (fun h133 => ?_) (fun h133 => ?_)
    ·
     have h134 := nt_t h133
     refine wpf_seq_region ?_
     refine wpo_assign (v := .bool false) rfl rfl ?_
     refine wpo_nil ?_
     refine wpf_ret ?_
     refine blk_r ?_
     refine thn_r ?_
     refine thn_r ?_
     refine blk_r ?_
     refine thn_r ?_
     refine ⟨.bool false, res1 rfl rfl, ?_, hb132⟩
     simp [queueOk, h109, h112, h121, all_false_of (p := numQ) hx123 h134]
    ·
     have h135 := nt_f h133
     refine wpf_skip ?_
     refine blk_n ?_
     refine thn_n ?_
     refine wpf_region ?_
     refine wpo_add (c := (k : Int) + 1) e117 rfl (by omega) (by omega) (by omega) rfl ?_
     refine wpo_move (v := .int .i64 ((k : Int) + 1)) rfl rfl ?_
     refine wpo_nil ?_
     refine thn_n ?_
     exact ⟨m.t.queue.length - (k + 1), by omega, (k + 1), rfl, (by omega), (take_all_succ (p := numQ) ha hx123 h135), rfl, e118, e119, hb132⟩
   ·
    have h136 := of_decide_eq_false h120
    refine wpf_exit ?_
    refine thn_e ?_
    refine thn_e ?_
    refine blk_e ?_
    refine thn_n ?_
    refine wpf_seq_region ?_
    refine wpo_assign (v := .bool true) rfl rfl ?_
    refine wpo_nil ?_
    refine wpf_ret ?_
    refine ⟨.bool true, res1 rfl rfl, ?_, hb115⟩
    simp [queueOk, h109, h112, h136, all_of_take (p := numQ) ha (by omega)]; omega

theorem slotsOk_c (m : MTh) (w : World) (hs : SlAt w m.sa 5 (m.t.slots.map Rt.cells)) (hq : SlAt w m.qa 1 (m.t.queue.map icell)) (hsl : m.t.slots.length ≤ 9223372036854775806) (hql : m.t.queue.length ≤ 9223372036854775806) : CallsR Tryd.prog 38 #[.agg #[.int .i64 m.t.kind, .int .i64 m.t.lab.s, .int .i64 m.t.lab.v, .int .i64 m.t.ve, .int .i64 m.t.num, .slice m.sa m.t.slots.length m.sc, .slice m.qa m.t.queue.length m.qc, .int .i64 m.t.to]] w (fun v w' => v = .bool (slotsOk m.t) ∧ w.grownBy w' none) := by
 refine calls_of_wpf (n := 32) Tryd.func38 rfl Tryd.ntmps38 rfl ?_
 have hb0 := World.grownBy.refl w none
 refine wpf_seq_region ?_
 refine wpo_box (v := .agg #[.int .i64 m.t.kind, .int .i64 m.t.lab.s, .int .i64 m.t.lab.v, .int .i64 m.t.ve, .int .i64 m.t.num, .slice m.sa m.t.slots.length m.sc, .slice m.qa m.t.queue.length m.qc, .int .i64 m.t.to]) (cs := #[.int .i64 m.t.kind, .int .i64 m.t.lab.s, .int .i64 m.t.lab.v, .int .i64 m.t.ve, .int .i64 m.t.num, .slice m.sa m.t.slots.length m.sc, .slice m.qa m.t.queue.length m.qc, .int .i64 m.t.to]) rfl rfl rfl ?_
 intro B101 w102 hN103
 have hlB101 := hN_ge hN103 hb0
 have hb104 := low0 hb0 hN103.grw
 refine wpo_assign (v := .bool false) rfl rfl ?_
 refine wpo_nil ?_
 refine wpf_seq ?_
 refine wpf_seq_region_mid (fun f' w' => (f' 1 = .pointer (some ⟨B101, 0, none⟩) ∧ f' 2 = .bool false ∧ f' 12 = .bool ((!(decide (m.t.kind = 2))) && (!(decide (m.t.kind = 3))))) ∧ w102 = w') ?_ ?_
 ·
  refine wpo_fieldAddr (o' := 0) fo_31_0 rfl rfl rfl ?_
  refine wpo_load1 (v := .int .i64 m.t.kind) ot_3 rfl (hN103.blk.cell rfl) rfl ?_
  refine wpo_neq (q := !(decide (m.t.kind = 2))) rfl rfl rfl rfl ?_
  refine wpo_move (v := .bool (!(decide (m.t.kind = 2)))) rfl rfl ?_
  rcases bcases (!(decide (m.t.kind = 2))) with h105 | h105
  ·
   have h106 := nt_t h105
   have h107 := of_decide_eq_false h106
   refine wpo_run rfl rfl rfl h105 ?_
   refine wpo_fieldAddr (o' := 0) fo_31_0 rfl rfl rfl ?_
   refine wpo_run rfl rfl rfl h105 ?_
   refine wpo_load1 (v := .int .i64 m.t.kind) ot_3 rfl (hN103.blk.cell rfl) rfl ?_
   refine wpo_run rfl rfl rfl h105 ?_
   refine wpo_neq (q := !(decide (m.t.kind = 3))) rfl rfl rfl rfl ?_
   refine wpo_pickt (v := .bool (!(decide (m.t.kind = 3)))) rfl h105 rfl rfl ?_
   exact wpo_nil ⟨⟨rfl, rfl, (congrArg Value.bool (by first | (simp only [h105, h106, b0, b1, b2, b3, b4, b5, b6, b7, b8, b9]; done) | simp [h105, h106]))⟩, rfl⟩
  ·
   have h108 := nt_f h105
   have h109 := of_decide_eq_true h108
   iterate 3 refine wpo_pass rfl rfl rfl h105 rfl ?_
   refine wpo_pickf (v := .bool false) rfl h105 rfl rfl ?_
   exact wpo_nil ⟨⟨rfl, rfl, (congrArg Value.bool (by first | (simp only [h105, h108, b0, b1, b2, b3, b4, b5, b6, b7, b8, b9]; done) | simp [h105, h108]))⟩, rfl⟩
 ·
  rintro f110 w111 ⟨⟨e112, e113, e114⟩, rfl⟩
  refine wpf_cond e114 (fun h115 => ?_) (fun h115 => ?_)
  ·
   have h116 := and_l h115
   have h117 := nt_t h116
   have h118 := of_decide_eq_false h117
   have h119 := and_r h115
   have h120 := nt_t h119
   have h121 := of_decide_eq_false h120
   refine wpf_seq_region ?_
   refine wpo_fieldAddr (o' := 5) fo_31_4 e112 rfl rfl ?_
   refine wpo_load1 (v := .slice m.sa m.t.slots.length m.sc) ot_28 rfl (hN103.blk.cell rfl) rfl ?_
   refine wpo_len (by kernel_rfl) rfl rfl ?_
   refine wpo_eql (q := decide ((m.t.slots.length : Int) = 0)) rfl rfl rfl rfl ?_
   refine wpo_assign (v := .bool (decide ((m.t.slots.length : Int) = 0))) rfl rfl ?_
   refine wpo_nil ?_
   refine wpf_ret ?_
   refine thn_r ?_
   refine ⟨.bool (decide ((m.t.slots.length : Int) = 0)), res1 rfl rfl, ?_, hb104⟩
   rw [slotsOk_n h115]
  ·
   refine wpf_skip ?_
   refine thn_n ?_
   refine wpf_seq ?_
   refine wpf_seq_region ?_
   refine wpo_fieldAddr (o' := 5) fo_31_4 e112 rfl rfl ?_
   refine wpo_load1 (v := .slice m.sa m.t.slots.length m.sc) ot_28 rfl (hN103.blk.cell rfl) rfl ?_
   refine wpo_len (by kernel_rfl) rfl rfl ?_
   refine wpo_neq (q := !(decide ((m.t.slots.length : Int) = 4))) rfl rfl rfl rfl ?_
   refine wpo_nil ?_
   refine wpf_cond rfl (fun h122 => ?_) (fun h122 => ?_)
   ·
    have h123 := nt_t h122
    have h124 := of_decide_eq_false h123
    refine wpf_seq_region ?_
    refine wpo_assign (v := .bool false) rfl rfl ?_
    refine wpo_nil ?_
    refine wpf_ret ?_
    refine thn_r ?_
    refine ⟨.bool false, res1 rfl rfl, ?_, hb104⟩
    rw [slotsOk_y h115]
    rw [decide_eq_false (by omega)]; rfl
   ·
    have h125 := nt_f h122
    have h126 := of_decide_eq_true h125
    refine wpf_skip ?_
    refine thn_n ?_
    refine wpf_seq ?_
    refine wpf_seq_region ?_
    refine wpo_fieldAddr (o' := 5) fo_31_4 e112 rfl rfl ?_
    refine wpo_load1 (v := .slice m.sa m.t.slots.length m.sc) ot_28 rfl (hN103.blk.cell rfl) rfl ?_
    obtain ⟨b127, q128, ha129, hr130⟩ := SlAt.all wide_rt (by omega) (SlAt.low hs hb104) (by omega)
    refine wpo_s2a at_44 rfl ha129 (by omega) rfl ?_
    refine wpo_loadn (vs := m.t.slots.flatMap Rt.cells) rt_44 rfl (by rw [rows_len wide_rt]; omega) hr130 rfl ?_
    refine wpo_move (v := .int .i64 0) rfl rfl ?_
    refine wpo_nil ?_
    refine wpf_block ?_
    refine wpf_loopN (fun mm f' w' => ∃ (k : Nat), mm = m.t.slots.length - k ∧ k ≤ m.t.slots.length ∧ ((m.t.slots.take k).all rightOk) = true ∧ f' 25 = .int .i64 (k : Int) ∧ f' 24 = .agg (m.t.slots.flatMap Rt.cells).toArray ∧ w.grownBy w' none) (m.t.slots.length - 0) ⟨0, rfl, (Nat.zero_le _), rfl, rfl, rfl, hb104⟩ ?_
    rintro mm f131 w132 ⟨k, hm134, hk, ha, e135, e136, hb133⟩
    refine wpf_seq_region ?_
    refine wpo_lss (q := decide ((k : Int) < 4)) e135 rfl rfl rfl ?_
    refine wpo_nil ?_
    refine wpf_seq ?_
    refine wpf_cond rfl (fun h137 => ?_) (fun h137 => ?_)
    ·
     have h138 := of_decide_eq_true h137
     refine wpf_skip ?_
     refine thn_n ?_
     refine wpf_seq ?_
     refine wpf_block ?_
     refine wpf_seq_region ?_
     obtain ⟨x139, hx140⟩ := get_lt (l := m.t.slots) (i := k) (by omega)
     refine wpo_indexArr (g := Rt.cells) (z := x139) at_44 rt_39 wide_rt e136 e135 (by omega) (by omega) hx140 rfl ?_
     refine wpo_alloc (cs := #[.int .i64 0, .int .i64 0, .bool false, .bool false, .bool false]) zt_39 rfl rfl ?_
     intro B141 w142 hN143
     have hlB141 := hN_ge hN143 hb133
     have hb144 := low0 hb133 hN143.grw
     refine wpo_storen (vs := [.int .i64 x139.th, .int .i64 x139.ve, .bool x139.rd, .bool x139.wr, .bool x139.wk]) (cs' := #[.int .i64 x139.th, .int .i64 x139.ve, .bool x139.rd, .bool x139.wr, .bool x139.wk]) rt_39 rfl rfl rfl (by simp [Value.oneCell']) hN143.blk (Nat.le_of_ble_eq_true rfl) rfl ?_
     intro w145 hS146
     have hb147 := low1 hb144 hS146.grw (by omega)
     refine wpo_nil ?_
     refine wpf_seq_region ?_
     refine wpo_loadn (vs := [.int .i64 x139.th, .int .i64 x139.ve, .bool x139.rd, .bool x139.wr, .bool x139.wk]) rt_39 rfl rfl (hS146.blk.rangeL 0 5 rfl) rfl ?_
     refine wpo_call (vs := [.agg #[.int .i64 x139.th, .int .i64 x139.ve, .bool x139.rd, .bool x139.wr, .bool x139.wk]]) gf_23 (args_cons rfl args_nil) rfl (RightOk_c x139 _) ?_
     rintro _ w148 ⟨rfl, hg149⟩
     have hb150 := low0 hb147 hg149
     refine wpo_not (b' := !rightOk x139) rfl rfl rfl ?_
     refine wpo_nil ?_
     refine wpf_cond rfl (fun h151 => ?_) (fun h151 => ?_)
     ·
      have h152 := nt_t h151
      refine wpf_seq_region ?_
      refine wpo_assign (v := .bool false) rfl rfl ?_
      refine wpo_nil ?_
      refine wpf_ret ?_
      refine blk_r ?_
      refine thn_r ?_
      refine thn_r ?_
      refine blk_r ?_
      refine thn_r ?_
      refine ⟨.bool false, res1 rfl rfl, ?_, hb150⟩
      rw [slotsOk_y h115]
      simp [all_false_of (p := rightOk) hx140 h152]
     ·
      have h153 := nt_f h151
      refine wpf_skip ?_
      refine blk_n ?_
      refine thn_n ?_
      refine wpf_region ?_
      refine wpo_add (c := (k : Int) + 1) e135 rfl (by omega) (by omega) (by omega) rfl ?_
      refine wpo_move (v := .int .i64 ((k : Int) + 1)) rfl rfl ?_
      refine wpo_nil ?_
      refine thn_n ?_
      exact ⟨m.t.slots.length - (k + 1), by omega, (k + 1), rfl, (by omega), (take_all_succ (p := rightOk) ha hx140 h153), rfl, e136, hb150⟩
    ·
     have h154 := of_decide_eq_false h137
     refine wpf_exit ?_
     refine thn_e ?_
     refine thn_e ?_
     refine blk_e ?_
     refine thn_n ?_
     refine wpf_seq_region ?_
     refine wpo_assign (v := .bool true) rfl rfl ?_
     refine wpo_nil ?_
     refine wpf_ret ?_
     refine ⟨.bool true, res1 rfl rfl, ?_, hb133⟩
     rw [slotsOk_y h115]
     rw [all_of_take (p := rightOk) ha (by omega), decide_eq_true (by omega)]; rfl

theorem ThingOk_c (m : MTh) (w : World) (hs : SlAt w m.sa 5 (m.t.slots.map Rt.cells)) (hq : SlAt w m.qa 1 (m.t.queue.map icell)) (hsl : m.t.slots.length ≤ 9223372036854775806) (hql : m.t.queue.length ≤ 9223372036854775806) : CallsR Tryd.prog 18 #[.agg #[.int .i64 m.t.kind, .int .i64 m.t.lab.s, .int .i64 m.t.lab.v, .int .i64 m.t.ve, .int .i64 m.t.num, .slice m.sa m.t.slots.length m.sc, .slice m.qa m.t.queue.length m.qc, .int .i64 m.t.to]] w (fun v w' => v = .bool (thingOk m.t) ∧ w.grownBy w' none) := by
 refine calls_of_wpf (n := 31) Tryd.func18 rfl Tryd.ntmps18 rfl ?_
 have hb0 := World.grownBy.refl w none
 refine wpf_seq_region ?_
 refine wpo_box (v := .agg #[.int .i64 m.t.kind, .int .i64 m.t.lab.s, .int .i64 m.t.lab.v, .int .i64 m.t.ve, .int .i64 m.t.num, .slice m.sa m.t.slots.length m.sc, .slice m.qa m.t.queue.length m.qc, .int .i64 m.t.to]) (cs := #[.int .i64 m.t.kind, .int .i64 m.t.lab.s, .int .i64 m.t.lab.v, .int .i64 m.t.ve, .int .i64 m.t.num, .slice m.sa m.t.slots.length m.sc, .slice m.qa m.t.queue.length m.qc, .int .i64 m.t.to]) rfl rfl rfl ?_
 intro B101 w102 hN103
 have hlB101 := hN_ge hN103 hb0
 have hb104 := low0 hb0 hN103.grw
 refine wpo_assign (v := .bool false) rfl rfl ?_
 refine wpo_nil ?_
 refine wpf_seq_region_mid (fun f' w' => (f' 2 = .bool ((((((inR m.t.kind 1 5 && labelOk m.t.lab) && versOk m.t) && numOk m.t) && slotsOk m.t) && queueOk m.t) && targetOk m.t)) ∧ w102.grownBy w' none) ?_ ?_
 ·
  refine wpo_fieldAddr (o' := 0) fo_31_0 rfl rfl rfl ?_
  refine wpo_load1 (v := .int .i64 m.t.kind) ot_3 rfl (hN103.blk.cell rfl) rfl ?_
  refine wpo_call (vs := [.int .i64 m.t.kind, .int .i64 1, .int .i64 5]) gf_19 (args_cons rfl (args_cons rfl (args_cons rfl args_nil))) rfl (inRange_c m.t.kind 1 5 _) ?_
  rintro _ w135 ⟨rfl, hg136⟩
  have hb137 := low0 hb104 hg136
  refine wpo_move (v := .bool (inR m.t.kind 1 5)) rfl rfl ?_
  rcases bcases (inR m.t.kind 1 5) with h138 | h138
  ·
   refine wpo_run rfl rfl rfl h138 ?_
   refine wpo_fieldAddr (o' := 1) fo_31_1 rfl rfl rfl ?_
   refine wpo_run rfl rfl rfl h138 ?_
   have k139 := (hN103.blk.grown0 hg136)
   refine wpo_loadn (vs := [.int .i64 m.t.lab.s, .int .i64 m.t.lab.v]) rt_27 rfl rfl (k139.rangeL 1 2 rfl) rfl ?_
   refine wpo_run rfl rfl rfl h138 ?_
   refine wpo_call (vs := [.agg #[.int .i64 m.t.lab.s, .int .i64 m.t.lab.v]]) gf_35 (args_cons rfl args_nil) rfl (LabelOk_c m.t.lab _) ?_
   rintro _ w140 ⟨rfl, hg141⟩
   have hb142 := low0 hb137 hg141
   refine wpo_pickt (v := .bool (labelOk m.t.lab)) rfl h138 rfl rfl ?_
   refine wpo_move (v := .bool (labelOk m.t.lab)) rfl rfl ?_
   rcases bcases (labelOk m.t.lab) with h143 | h143
   ·
    refine wpo_run rfl rfl rfl h143 ?_
    have k144 := (k139.grown0 hg141)
    refine wpo_loadn (vs := [.int .i64 m.t.kind, .int .i64 m.t.lab.s, .int .i64 m.t.lab.v, .int .i64 m.t.ve, .int .i64 m.t.num, .slice m.sa m.t.slots.length m.sc, .slice m.qa m.t.queue.length m.qc, .int .i64 m.t.to]) rt_31 rfl rfl (k144.rangeL 0 8 rfl) rfl ?_
    refine wpo_run rfl rfl rfl h143 ?_
    refine wpo_call (vs := [.agg #[.int .i64 m.t.kind, .int .i64 m.t.lab.s, .int .i64 m.t.lab.v, .int .i64 m.t.ve, .int .i64 m.t.num, .slice m.sa m.t.slots.length m.sc, .slice m.qa m.t.queue.length m.qc, .int .i64 m.t.to]]) gf_36 (args_cons rfl args_nil) rfl (versOk_c m _) ?_
    rintro _ w145 ⟨rfl, hg146⟩
    have hb147 := low0 hb142 hg146
    refine wpo_pickt (v := .bool (versOk m.t)) rfl h143 rfl rfl ?_
    refine wpo_move (v := .bool (versOk m.t)) rfl rfl ?_
    rcases bcases (versOk m.t) with h148 | h148
    ·
     refine wpo_run rfl rfl rfl h148 ?_
     have k149 := (k144.grown0 hg146)
     refine wpo_loadn (vs := [.int .i64 m.t.kind, .int .i64 m.t.lab.s, .int .i64 m.t.lab.v, .int .i64 m.t.ve, .int .i64 m.t.num, .slice m.sa m.t.slots.length m.sc, .slice m.qa m.t.queue.length m.qc, .int .i64 m.t.to]) rt_31 rfl rfl (k149.rangeL 0 8 rfl) rfl ?_
     refine wpo_run rfl rfl rfl h148 ?_
     refine wpo_call (vs := [.agg #[.int .i64 m.t.kind, .int .i64 m.t.lab.s, .int .i64 m.t.lab.v, .int .i64 m.t.ve, .int .i64 m.t.num, .slice m.sa m.t.slots.length m.sc, .slice m.qa m.t.queue.length m.qc, .int .i64 m.t.to]]) gf_37 (args_cons rfl args_nil) rfl (numOk_c m _) ?_
     rintro _ w150 ⟨rfl, hg151⟩
     have hb152 := low0 hb147 hg151
     refine wpo_pickt (v := .bool (numOk m.t)) rfl h148 rfl rfl ?_
     refine wpo_move (v := .bool (numOk m.t)) rfl rfl ?_
     rcases bcases (numOk m.t) with h153 | h153
     ·
      refine wpo_run rfl rfl rfl h153 ?_
      have k154 := (k149.grown0 hg151)
      refine wpo_loadn (vs := [.int .i64 m.t.kind, .int .i64 m.t.lab.s, .int .i64 m.t.lab.v, .int .i64 m.t.ve, .int .i64 m.t.num, .slice m.sa m.t.slots.length m.sc, .slice m.qa m.t.queue.length m.qc, .int .i64 m.t.to]) rt_31 rfl rfl (k154.rangeL 0 8 rfl) rfl ?_
      refine wpo_run rfl rfl rfl h153 ?_
      refine wpo_call (vs := [.agg #[.int .i64 m.t.kind, .int .i64 m.t.lab.s, .int .i64 m.t.lab.v, .int .i64 m.t.ve, .int .i64 m.t.num, .slice m.sa m.t.slots.length m.sc, .slice m.qa m.t.queue.length m.qc, .int .i64 m.t.to]]) gf_38 (args_cons rfl args_nil) rfl (slotsOk_c m _ (SlAt.low hs hb152) (SlAt.low hq hb152) (by first | omega | exact Nat.le_of_ble_eq_true rfl | (simp only [List.length_nil, List.length_cons, List.length_append, List.length_replicate]; omega)) (by first | omega | exact Nat.le_of_ble_eq_true rfl | (simp only [List.length_nil, List.length_cons, List.length_append, List.length_replicate]; omega))) ?_
      rintro _ w155 ⟨rfl, hg156⟩
      have hb157 := low0 hb152 hg156
      refine wpo_pickt (v := .bool (slotsOk m.t)) rfl h153 rfl rfl ?_
      refine wpo_move (v := .bool (slotsOk m.t)) rfl rfl ?_
      rcases bcases (slotsOk m.t) with h158 | h158
      ·
       refine wpo_run rfl rfl rfl h158 ?_
       have k159 := (k154.grown0 hg156)
       refine wpo_loadn (vs := [.int .i64 m.t.kind, .int .i64 m.t.lab.s, .int .i64 m.t.lab.v, .int .i64 m.t.ve, .int .i64 m.t.num, .slice m.sa m.t.slots.length m.sc, .slice m.qa m.t.queue.length m.qc, .int .i64 m.t.to]) rt_31 rfl rfl (k159.rangeL 0 8 rfl) rfl ?_
       refine wpo_run rfl rfl rfl h158 ?_
       refine wpo_call (vs := [.agg #[.int .i64 m.t.kind, .int .i64 m.t.lab.s, .int .i64 m.t.lab.v, .int .i64 m.t.ve, .int .i64 m.t.num, .slice m.sa m.t.slots.length m.sc, .slice m.qa m.t.queue.length m.qc, .int .i64 m.t.to]]) gf_39 (args_cons rfl args_nil) rfl (queueOk_c m _ (SlAt.low hs hb157) (SlAt.low hq hb157) (by first | omega | exact Nat.le_of_ble_eq_true rfl | (simp only [List.length_nil, List.length_cons, List.length_append, List.length_replicate]; omega)) (by first | omega | exact Nat.le_of_ble_eq_true rfl | (simp only [List.length_nil, List.length_cons, List.length_append, List.length_replicate]; omega))) ?_
       rintro _ w160 ⟨rfl, hg161⟩
       have hb162 := low0 hb157 hg161
       refine wpo_pickt (v := .bool (queueOk m.t)) rfl h158 rfl rfl ?_
       refine wpo_move (v := .bool (queueOk m.t)) rfl rfl ?_
       rcases bcases (queueOk m.t) with h163 | h163
       ·
        refine wpo_run rfl rfl rfl h163 ?_
        have k164 := (k159.grown0 hg161)
        refine wpo_loadn (vs := [.int .i64 m.t.kind, .int .i64 m.t.lab.s, .int .i64 m.t.lab.v, .int .i64 m.t.ve, .int .i64 m.t.num, .slice m.sa m.t.slots.length m.sc, .slice m.qa m.t.queue.length m.qc, .int .i64 m.t.to]) rt_31 rfl rfl (k164.rangeL 0 8 rfl) rfl ?_
        refine wpo_run rfl rfl rfl h163 ?_
        refine wpo_call (vs := [.agg #[.int .i64 m.t.kind, .int .i64 m.t.lab.s, .int .i64 m.t.lab.v, .int .i64 m.t.ve, .int .i64 m.t.num, .slice m.sa m.t.slots.length m.sc, .slice m.qa m.t.queue.length m.qc, .int .i64 m.t.to]]) gf_40 (args_cons rfl args_nil) rfl (targetOk_c m _) ?_
        rintro _ w165 ⟨rfl, hg166⟩
        have hb167 := low0 hb162 hg166
        refine wpo_pickt (v := .bool (targetOk m.t)) rfl h163 rfl rfl ?_
        refine wpo_assign (v := .bool (targetOk m.t)) rfl rfl ?_
        exact wpo_nil ⟨(congrArg Value.bool (by first | (simp only [h138, h143, h148, h153, h158, h163, b0, b1, b2, b3, b4, b5, b6, b7, b8, b9]; done) | simp [h138, h143, h148, h153, h158, h163])), (grown_trans (grown_trans (grown_trans (grown_trans (grown_trans (grown_trans hg136 hg141) hg146) hg151) hg156) hg161) hg166)⟩
       ·
        refine wpo_pass rfl rfl rfl h163 rfl ?_
        refine wpo_pass rfl rfl rfl h163 rfl ?_
        refine wpo_pickf (v := .bool false) rfl h163 rfl rfl ?_
        refine wpo_assign (v := .bool false) rfl rfl ?_
        exact wpo_nil ⟨(congrArg Value.bool (by first | (simp only [h138, h143, h148, h153, h158, h163, b0, b1, b2, b3, b4, b5, b6, b7, b8, b9]; done) | simp [h138, h143, h148, h153, h158, h163])), (grown_trans (grown_trans (grown_trans (grown_trans (grown_trans hg136 hg141) hg146) hg151) hg156) hg161)⟩
      ·
       refine wpo_pass rfl rfl rfl h158 rfl ?_
       refine wpo_pass rfl rfl rfl h158 rfl ?_
       refine wpo_pickf (v := .bool false) rfl h158 rfl rfl ?_
       refine wpo_move (v := .bool false) rfl rfl ?_
       refine wpo_pass rfl rfl rfl rfl rfl ?_
       refine wpo_pass rfl rfl rfl rfl rfl ?_
       refine wpo_pickf (v := .bool false) rfl rfl rfl rfl ?_
       refine wpo_assign (v := .bool false) rfl rfl ?_
       exact wpo_nil ⟨(congrArg Value.bool (by first | (simp only [h138, h143, h148, h153, h158, b0, b1, b2, b3, b4, b5, b6, b7, b8, b9]; done) | simp [h138, h143, h148, h153, h158])), (grown_trans (grown_trans (grown_trans (grown_trans hg136 hg141) hg146) hg151) hg156)⟩
     ·
      refine wpo_pass rfl rfl rfl h153 rfl ?_
      refine wpo_pass rfl rfl rfl h153 rfl ?_
      refine wpo_pickf (v := .bool false) rfl h153 rfl rfl ?_
      refine wpo_move (v := .bool false) rfl rfl ?_
      refine wpo_pass rfl rfl rfl rfl rfl ?_
      refine wpo_pass rfl rfl rfl rfl rfl ?_
      refine wpo_pickf (v := .bool false) rfl rfl rfl rfl ?_
      refine wpo_move (v := .bool false) rfl rfl ?_
      refine wpo_pass rfl rfl rfl rfl rfl ?_
      refine wpo_pass rfl rfl rfl rfl rfl ?_
      refine wpo_pickf (v := .bool false) rfl rfl rfl rfl ?_
      refine wpo_assign (v := .bool false) rfl rfl ?_
      exact wpo_nil ⟨(congrArg Value.bool (by first | (simp only [h138, h143, h148, h153, b0, b1, b2, b3, b4, b5, b6, b7, b8, b9]; done) | simp [h138, h143, h148, h153])), (grown_trans (grown_trans (grown_trans hg136 hg141) hg146) hg151)⟩
    ·
     refine wpo_pass rfl rfl rfl h148 rfl ?_
     refine wpo_pass rfl rfl rfl h148 rfl ?_
     refine wpo_pickf (v := .bool false) rfl h148 rfl rfl ?_
     refine wpo_move (v := .bool false) rfl rfl ?_
     refine wpo_pass rfl rfl rfl rfl rfl ?_
     refine wpo_pass rfl rfl rfl rfl rfl ?_
     refine wpo_pickf (v := .bool false) rfl rfl rfl rfl ?_
     refine wpo_move (v := .bool false) rfl rfl ?_
     refine wpo_pass rfl rfl rfl rfl rfl ?_
     refine wpo_pass rfl rfl rfl rfl rfl ?_
     refine wpo_pickf (v := .bool false) rfl rfl rfl rfl ?_
     refine wpo_move (v := .bool false) rfl rfl ?_
     refine wpo_pass rfl rfl rfl rfl rfl ?_
     refine wpo_pass rfl rfl rfl rfl rfl ?_
     refine wpo_pickf (v := .bool false) rfl rfl rfl rfl ?_
     refine wpo_assign (v := .bool false) rfl rfl ?_
     exact wpo_nil ⟨(congrArg Value.bool (by first | (simp only [h138, h143, h148, b0, b1, b2, b3, b4, b5, b6, b7, b8, b9]; done) | simp [h138, h143, h148])), (grown_trans (grown_trans hg136 hg141) hg146)⟩
   ·
    refine wpo_pass rfl rfl rfl h143 rfl ?_
    refine wpo_pass rfl rfl rfl h143 rfl ?_
    refine wpo_pickf (v := .bool false) rfl h143 rfl rfl ?_
    refine wpo_move (v := .bool false) rfl rfl ?_
    refine wpo_pass rfl rfl rfl rfl rfl ?_
    refine wpo_pass rfl rfl rfl rfl rfl ?_
    refine wpo_pickf (v := .bool false) rfl rfl rfl rfl ?_
    refine wpo_move (v := .bool false) rfl rfl ?_
    refine wpo_pass rfl rfl rfl rfl rfl ?_
    refine wpo_pass rfl rfl rfl rfl rfl ?_
    refine wpo_pickf (v := .bool false) rfl rfl rfl rfl ?_
    refine wpo_move (v := .bool false) rfl rfl ?_
    refine wpo_pass rfl rfl rfl rfl rfl ?_
    refine wpo_pass rfl rfl rfl rfl rfl ?_
    refine wpo_pickf (v := .bool false) rfl rfl rfl rfl ?_
    refine wpo_move (v := .bool false) rfl rfl ?_
    refine wpo_pass rfl rfl rfl rfl rfl ?_
    refine wpo_pass rfl rfl rfl rfl rfl ?_
    refine wpo_pickf (v := .bool false) rfl rfl rfl rfl ?_
    refine wpo_assign (v := .bool false) rfl rfl ?_
    exact wpo_nil ⟨(congrArg Value.bool (by first | (simp only [h138, h143, b0, b1, b2, b3, b4, b5, b6, b7, b8, b9]; done) | simp [h138, h143])), (grown_trans hg136 hg141)⟩
  ·
   iterate 3 refine wpo_pass rfl rfl rfl h138 rfl ?_
   refine wpo_pickf (v := .bool false) rfl h138 rfl rfl ?_
   refine wpo_move (v := .bool false) rfl rfl ?_
   refine wpo_pass rfl rfl rfl rfl rfl ?_
   refine wpo_pass rfl rfl rfl rfl rfl ?_
   refine wpo_pickf (v := .bool false) rfl rfl rfl rfl ?_
   refine wpo_move (v := .bool false) rfl rfl ?_
   refine wpo_pass rfl rfl rfl rfl rfl ?_
   refine wpo_pass rfl rfl rfl rfl rfl ?_
   refine wpo_pickf (v := .bool false) rfl rfl rfl rfl ?_
   refine wpo_move (v := .bool false) rfl rfl ?_
   refine wpo_pass rfl rfl rfl rfl rfl ?_
   refine wpo_pass rfl rfl rfl rfl rfl ?_
   refine wpo_pickf (v := .bool false) rfl rfl rfl rfl ?_
   refine wpo_move (v := .bool false) rfl rfl ?_
   refine wpo_pass rfl rfl rfl rfl rfl ?_
   refine wpo_pass rfl rfl rfl rfl rfl ?_
   refine wpo_pickf (v := .bool false) rfl rfl rfl rfl ?_
   refine wpo_move (v := .bool false) rfl rfl ?_
   refine wpo_pass rfl rfl rfl rfl rfl ?_
   refine wpo_pass rfl rfl rfl rfl rfl ?_
   refine wpo_pickf (v := .bool false) rfl rfl rfl rfl ?_
   refine wpo_assign (v := .bool false) rfl rfl ?_
   exact wpo_nil ⟨(congrArg Value.bool (by first | (simp only [h138, b0, b1, b2, b3, b4, b5, b6, b7, b8, b9]; done) | simp [h138])), hg136⟩
 ·
  rintro f168 w169 ⟨e170, hg171⟩
  have hb172 := low0 hb104 hg171
  refine wpf_ret ?_
  refine ⟨.bool ((((((inR m.t.kind 1 5 && labelOk m.t.lab) && versOk m.t) && numOk m.t) && slotsOk m.t) && queueOk m.t) && targetOk m.t), res1 rfl e170, ?_, hb172⟩
  rfl

theorem l3Slots_c (n : Int) (w : World) : CallsR Tryd.prog 52 #[.int .i64 n] w (fun v w' => v = .bool (decide (n = 2) || decide (n = 3)) ∧ w.grownBy w' none) := by
 refine calls_of_wpf (n := 9) Tryd.func52 rfl Tryd.ntmps52 rfl ?_
 have hb0 := World.grownBy.refl w none
 refine wpf_seq_region ?_
 refine wpo_assign (v := .bool false) rfl rfl ?_
 refine wpo_nil ?_
 refine wpf_seq_region_mid (fun f' w' => (f' 2 = .bool ((decide (n = 2)) || (decide (n = 3)))) ∧ w = w') ?_ ?_
 ·
  refine wpo_move (v := .int .i64 n) rfl rfl ?_
  refine wpo_eql (q := decide (n = 2)) rfl rfl rfl rfl ?_
  refine wpo_move (v := .bool (decide (n = 2))) rfl rfl ?_
  rcases bcases (decide (n = 2)) with h101 | h101
  ·
   have h102 := of_decide_eq_true h101
   refine wpo_pass rfl rfl rfl h101 rfl ?_
   refine wpo_pass rfl rfl rfl h101 rfl ?_
   refine wpo_pickt (v := .bool true) rfl h101 rfl rfl ?_
   refine wpo_assign (v := .bool true) rfl rfl ?_
   exact wpo_nil ⟨(congrArg Value.bool (by first | (simp only [h101, b0, b1, b2, b3, b4, b5, b6, b7, b8, b9]; done) | simp [h101])), rfl⟩
  ·
   have h103 := of_decide_eq_false h101
   refine wpo_run rfl rfl rfl h101 ?_
   refine wpo_move (v := .int .i64 n) rfl rfl ?_
   refine wpo_run rfl rfl rfl h101 ?_
   refine wpo_eql (q := decide (n = 3)) rfl rfl rfl rfl ?_
   refine wpo_pickf (v := .bool (decide (n = 3))) rfl h101 rfl rfl ?_
   refine wpo_assign (v := .bool (decide (n = 3))) rfl rfl ?_
   exact wpo_nil ⟨(congrArg Value.bool (by first | (simp only [h101, b0, b1, b2, b3, b4, b5, b6, b7, b8, b9]; done) | simp [h101])), rfl⟩
 ·
  rintro f104 w105 ⟨e106, rfl⟩
  refine wpf_ret ?_
  refine ⟨.bool ((decide (n = 2)) || (decide (n = 3))), res1 rfl e106, ?_, hb0⟩
  rfl

theorem sThingOk_c (m : MTh) (w : World) (hs : SlAt w m.sa 5 (m.t.slots.map Rt.cells)) (hq : SlAt w m.qa 1 (m.t.queue.map icell)) (hsl : m.t.slots.length ≤ 9223372036854775806) (hql : m.t.queue.length ≤ 9223372036854775806) : CallsR Tryd.prog 30 #[.agg #[.int .i64 m.t.kind, .int .i64 m.t.lab.s, .int .i64 m.t.lab.v, .int .i64 m.t.ve, .int .i64 m.t.num, .slice m.sa m.t.slots.length m.sc, .slice m.qa m.t.queue.length m.qc, .int .i64 m.t.to]] w (fun v w' => v = .bool (thingOk m.t) ∧ w.grownBy w' none) := by
 refine calls_of_wpf (n := 144) Tryd.func30 rfl Tryd.ntmps30 rfl ?_
 have hb0 := World.grownBy.refl w none
 refine wpf_seq_region ?_
 refine wpo_box (v := .agg #[.int .i64 m.t.kind, .int .i64 m.t.lab.s, .int .i64 m.t.lab.v, .int .i64 m.t.ve, .int .i64 m.t.num, .slice m.sa m.t.slots.length m.sc, .slice m.qa m.t.queue.length m.qc, .int .i64 m.t.to]) (cs := #[.int .i64 m.t.kind, .int .i64 m.t.lab.s, .int .i64 m.t.lab.v, .int .i64 m.t.ve, .int .i64 m.t.num, .slice m.sa m.t.slots.length m.sc, .slice m.qa m.t.queue.length m.qc, .int .i64 m.t.to]) rfl rfl rfl ?_
 intro B101 w102 hN103
 have hlB101 := hN_ge hN103 hb0
 have hb104 := low0 hb0 hN103.grw
 refine wpo_assign (v := .bool false) rfl rfl ?_
 refine wpo_nil ?_
 refine wpf_seq ?_
 refine wpf_seq_region_mid (fun f' w' => (f' 1 = .pointer (some ⟨B101, 0, none⟩) ∧ f' 2 = .bool false ∧ f' 27 = .bool ((((!inR m.t.kind 1 5) || (!labelOk m.t.lab)) || (!inR m.t.ve 0 5)) || (decide (3 < (m.t.queue.length : Int))))) ∧ w102.grownBy w' none) ?_ ?_
 ·
  refine wpo_fieldAddr (o' := 0) fo_31_0 rfl rfl rfl ?_
  refine wpo_load1 (v := .int .i64 m.t.kind) ot_3 rfl (hN103.blk.cell rfl) rfl ?_
  refine wpo_call (vs := [.int .i64 m.t.kind, .int .i64 1, .int .i64 5]) gf_31 (args_cons rfl (args_cons rfl (args_cons rfl args_nil))) rfl (l6In_c m.t.kind 1 5 _) ?_
  rintro _ w120 ⟨rfl, hg121⟩
  have hb122 := low0 hb104 hg121
  refine wpo_not (b' := !inR m.t.kind 1 5) rfl rfl rfl ?_
  refine wpo_move (v := .bool (!inR m.t.kind 1 5)) rfl rfl ?_
  rcases bcases (!inR m.t.kind 1 5) with h123 | h123
  ·
   have h124 := nt_t h123
   iterate 4 refine wpo_pass rfl rfl rfl h123 rfl ?_
   refine wpo_pickt (v := .bool true) rfl h123 rfl rfl ?_
   refine wpo_move (v := .bool true) rfl rfl ?_
   iterate 4 refine wpo_pass rfl rfl rfl rfl rfl ?_
   refine wpo_pickt (v := .bool true) rfl rfl rfl rfl ?_
   refine wpo_move (v := .bool true) rfl rfl ?_
   iterate 4 refine wpo_pass rfl rfl rfl rfl rfl ?_
   refine wpo_pickt (v := .bool true) rfl rfl rfl rfl ?_
   exact wpo_nil ⟨⟨rfl, rfl, (congrArg Value.bool (by first | (simp only [h123, h124, b0, b1, b2, b3, b4, b5, b6, b7, b8, b9]; done) | simp [h123, h124]))⟩, hg121⟩
  ·
   have h125 := nt_f h123
   refine wpo_run rfl rfl rfl h123 ?_
   refine wpo_fieldAddr (o' := 1) fo_31_1 rfl rfl rfl ?_
   refine wpo_run rfl rfl rfl h123 ?_
   have k126 := (hN103.blk.grown0 hg121)
   refine wpo_loadn (vs := [.int .i64 m.t.lab.s, .int .i64 m.t.lab.v]) rt_27 rfl rfl (k126.rangeL 1 2 rfl) rfl ?_
   refine wpo_run rfl rfl rfl h123 ?_
   refine wpo_call (vs := [.agg #[.int .i64 m.t.lab.s, .int .i64 m.t.lab.v]]) gf_51 (args_cons rfl args_nil) rfl (sLabelOk_c m.t.lab _) ?_
   rintro _ w127 ⟨rfl, hg128⟩
   have hb129 := low0 hb122 hg128
   refine wpo_run rfl rfl rfl h123 ?_
   refine wpo_not (b' := !labelOk m.t.lab) rfl rfl rfl ?_
   refine wpo_pickf (v := .bool (!labelOk m.t.lab)) rfl h123 rfl rfl ?_
   refine wpo_move (v := .bool (!labelOk m.t.lab)) rfl rfl ?_
   rcases bcases (!labelOk m.t.lab) with h130 | h130
   ·
    have h131 := nt_t h130
    iterate 4 refine wpo_pass rfl rfl rfl h130 rfl ?_
    refine wpo_pickt (v := .bool true) rfl h130 rfl rfl ?_
    refine wpo_move (v := .bool true) rfl rfl ?_
    iterate 4 refine wpo_pass rfl rfl rfl rfl rfl ?_
    refine wpo_pickt (v := .bool true) rfl rfl rfl rfl ?_
    exact wpo_nil ⟨⟨rfl, rfl, (congrArg Value.bool (by first | (simp only [h123, h125, h130, h131, b0, b1, b2, b3, b4, b5, b6, b7, b8, b9]; done) | simp [h123, h125, h130, h131]))⟩, (grown_trans hg121 hg128)⟩
   ·
    have h132 := nt_f h130
    refine wpo_run rfl rfl rfl h130 ?_
    refine wpo_fieldAddr (o' := 3) fo_31_2 rfl rfl rfl ?_
    refine wpo_run rfl rfl rfl h130 ?_
    have k133 := (k126.grown0 hg128)
    refine wpo_load1 (v := .int .i64 m.t.ve) ot_3 rfl (k133.cell rfl) rfl ?_
    refine wpo_run rfl rfl rfl h130 ?_
    refine wpo_call (vs := [.int .i64 m.t.ve, .int .i64 0, .int .i64 5]) gf_31 (args_cons rfl (args_cons rfl (args_cons rfl args_nil))) rfl (l6In_c m.t.ve 0 5 _) ?_
    rintro _ w134 ⟨rfl, hg135⟩
    have hb136 := low0 hb129 hg135
    refine wpo_run rfl rfl rfl h130 ?_
    refine wpo_not (b' := !inR m.t.ve 0 5) rfl rfl rfl ?_
    refine wpo_pickf (v := .bool (!inR m.t.ve 0 5)) rfl h130 rfl rfl ?_
    refine wpo_move (v := .bool (!inR m.t.ve 0 5)) rfl rfl ?_
    rcases bcases (!inR m.t.ve 0 5) with h137 | h137
    ·
     have h138 := nt_t h137
     iterate 4 refine wpo_pass rfl rfl rfl h137 rfl ?_
     refine wpo_pickt (v := .bool true) rfl h137 rfl rfl ?_
     exact wpo_nil ⟨⟨rfl, rfl, (congrArg Value.bool (by first | (simp only [h123, h125, h130, h132, h137, h138, b0, b1, b2, b3, b4, b5, b6, b7, b8, b9]; done) | simp [h123, h125, h130, h132, h137, h138]))⟩, (grown_trans (grown_trans hg121 hg128) hg135)⟩
    ·
     have h139 := nt_f h137
     refine wpo_run rfl rfl rfl h137 ?_
     refine wpo_fieldAddr (o' := 6) fo_31_5 rfl rfl rfl ?_
     refine wpo_run rfl rfl rfl h137 ?_
     have k140 := (k133.grown0 hg135)
     refine wpo_load1 (v := .slice m.qa m.t.queue.length m.qc) ot_29 rfl (k140.cell rfl) rfl ?_
     refine wpo_run rfl rfl rfl h137 ?_
     refine wpo_len (by kernel_rfl) rfl rfl ?_
     refine wpo_run rfl rfl rfl h137 ?_
     refine wpo_gtr (q := decide (3 < (m.t.queue.length : Int))) rfl rfl rfl rfl ?_
     refine wpo_pickf (v := .bool (decide (3 < (m.t.queue.length : Int)))) rfl h137 rfl rfl ?_
     exact wpo_nil ⟨⟨rfl, rfl, (congrArg Value.bool (by first | (simp only [h123, h125, h130, h132, h137, h139, b0, b1, b2, b3, b4, b5, b6, b7, b8, b9]; done) | simp [h123, h125, h130, h132, h137, h139]))⟩, (grown_trans (grown_trans hg121 hg128) hg135)⟩
 ·
  rintro f141 w142 ⟨⟨e143, e144, e145⟩, hg146⟩
  have hb147 := low0 hb104 hg146
  refine wpf_cond e145 (fun h148 => ?_) (fun h148 => ?_)
  ·
   refine wpf_seq_region ?_
   refine wpo_assign (v := .bool false) rfl rfl ?_
   refine wpo_nil ?_
   refine wpf_ret ?_
   refine thn_r ?_
   refine ⟨.bool false, res1 rfl rfl, ?_, hb147⟩
   exact congrArg Value.bool (th_a h148)
  ·
   have h149 := or_l h148
   have h150 := or_l h149
   have h151 := or_l h150
   have h152 := nt_f h151
   have h153 := or_r h150
   have h154 := nt_f h153
   have h155 := or_r h149
   have h156 := nt_f h155
   have h157 := or_r h148
   have h158 := of_decide_eq_false h157
   refine wpf_skip ?_
   refine thn_n ?_
   refine wpf_seq_region ?_
   refine wpo_assign (v := .int .i64 0) rfl rfl ?_
   refine wpo_nil ?_
   refine wpf_seq ?_
   refine wpf_seq_region ?_
   refine wpo_fieldAddr (o' := 0) fo_31_0 e143 rfl rfl ?_
   have k159 := (hN103.blk.grown0 hg146)
   refine wpo_load1 (v := .int .i64 m.t.kind) ot_3 rfl (k159.cell rfl) rfl ?_
   refine wpo_eql (q := decide (m.t.kind = 3)) rfl rfl rfl rfl ?_
   refine wpo_nil ?_
   refine wpf_mid (fun f' w' => (f' 1 = .pointer (some ⟨B101, 0, none⟩) ∧ f' 2 = .bool false ∧ f' 3 = .int .i64 (if m.t.kind = 3 then (-4) else 0)) ∧ w142 = w') ?_ ?_
   ·
    refine wpf_cond rfl (fun h160 => ?_) (fun h160 => ?_)
    ·
     have h161 := of_decide_eq_true h160
     refine wpf_region ?_
     refine wpo_assign (v := .int .i64 (-4)) rfl rfl ?_
     refine wpo_nil ?_
     refine thn_n ?_
     exact ⟨⟨e143, e144, (congrArg (Value.int .i64) (if_pos (of_decide_eq_true h160)).symm)⟩, rfl⟩
    ·
     have h162 := of_decide_eq_false h160
     refine wpf_skip ?_
     refine thn_n ?_
     exact ⟨⟨e143, e144, (congrArg (Value.int .i64) (if_neg (of_decide_eq_false h160)).symm)⟩, rfl⟩
   ·
    rintro f163 _ ⟨⟨e165, e166, e167⟩, rfl⟩
    refine thn_n ?_
    refine wpf_seq ?_
    refine wpf_seq_region_mid (fun f' w' => (f' 1 = .pointer (some ⟨B101, 0, none⟩) ∧ f' 2 = .bool false ∧ f' 65 = .bool (((!inR m.t.num (if m.t.kind = 3 then (-4) else 0) 99) || ((!(decide (m.t.num = 0))) && ((decide (m.t.kind = 2)) || (decide (m.t.kind = 4))))) || ((!(decide (m.t.ve = 0))) && ((decide (m.t.kind = 3)) || (decide (m.t.kind = 5)))))) ∧ w142.grownBy w' none) ?_ ?_
    ·
     refine wpo_fieldAddr (o' := 4) fo_31_3 e165 rfl rfl ?_
     refine wpo_load1 (v := .int .i64 m.t.num) ot_3 rfl (k159.cell rfl) rfl ?_
     refine wpo_move (v := .int .i64 (if m.t.kind = 3 then (-4) else 0)) e167 rfl ?_
     refine wpo_call (vs := [.int .i64 m.t.num, .int .i64 (if m.t.kind = 3 then (-4) else 0), .int .i64 99]) gf_31 (args_cons rfl (args_cons rfl (args_cons rfl args_nil))) rfl (l6In_c m.t.num (if m.t.kind = 3 then (-4) else 0) 99 _) ?_
     rintro _ w175 ⟨rfl, hg176⟩
     have hb177 := low0 hb147 hg176
     refine wpo_not (b' := !inR m.t.num (if m.t.kind = 3 then (-4) else 0) 99) rfl rfl rfl ?_
     refine wpo_move (v := .bool (!inR m.t.num (if m.t.kind = 3 then (-4) else 0) 99)) rfl rfl ?_
     rcases bcases (!inR m.t.num (if m.t.kind = 3 then (-4) else 0) 99) with h178 | h178
     ·
      have h179 := nt_t h178
      iterate 4 refine wpo_pass rfl rfl rfl h178 rfl ?_
      iterate 8 refine wpo_passu rfl rfl rfl rfl ?_
      refine wpo_pass rfl rfl rfl h178 rfl ?_
      refine wpo_pickt (v := .bool true) rfl h178 rfl rfl ?_
      refine wpo_move (v := .bool true) rfl rfl ?_
      iterate 4 refine wpo_pass rfl rfl rfl rfl rfl ?_
      iterate 8 refine wpo_passu rfl rfl rfl rfl ?_
      refine wpo_pass rfl rfl rfl rfl rfl ?_
      refine wpo_pickt (v := .bool true) rfl rfl rfl rfl ?_
      exact wpo_nil ⟨⟨e165, e166, (congrArg Value.bool (by first | (simp only [h148, h149, h150, h151, h152, h153, h154, h155, h156, h157, h178, h179, b0, b1, b2, b3, b4, b5, b6, b7, b8, b9]; done) | simp [h148, h149, h150, h151, h152, h153, h154, h155, h156, h157, h178, h179]))⟩, hg176⟩
     ·
      have h180 := nt_f h178
      refine wpo_run rfl rfl rfl h178 ?_
      refine wpo_fieldAddr (o' := 4) fo_31_3 e165 rfl rfl ?_
      refine wpo_run rfl rfl rfl h178 ?_
      have k181 := (k159.grown0 hg176)
      refine wpo_load1 (v := .int .i64 m.t.num) ot_3 rfl (k181.cell rfl) rfl ?_
      refine wpo_run rfl rfl rfl h178 ?_
      refine wpo_neq (q := !(decide (m.t.num = 0))) rfl rfl rfl rfl ?_
      refine wpo_run rfl rfl rfl h178 ?_
      refine wpo_move (v := .bool (!(decide (m.t.num = 0)))) rfl rfl ?_
      rcases bcases (!(decide (m.t.num = 0))) with h182 | h182
      ·
       have h183 := nt_t h182
       have h184 := of_decide_eq_false h183
       refine wpo_run rfl rfl rfl h182 ?_
       refine wpo_fieldAddr (o' := 0) fo_31_0 e165 rfl rfl ?_
       refine wpo_run rfl rfl rfl h182 ?_
       refine wpo_load1 (v := .int .i64 m.t.kind) ot_3 rfl (k181.cell rfl) rfl ?_
       refine wpo_run rfl rfl rfl h182 ?_
       refine wpo_eql (q := decide (m.t.kind = 2)) rfl rfl rfl rfl ?_
       refine wpo_run rfl rfl rfl h182 ?_
       refine wpo_move (v := .bool (decide (m.t.kind = 2))) rfl rfl ?_
       rcases bcases (decide (m.t.kind = 2)) with h185 | h185
       ·
        have h186 := of_decide_eq_true h185
        iterate 3 refine wpo_pass rfl rfl rfl h185 rfl ?_
        refine wpo_run rfl rfl rfl h182 ?_
        refine wpo_pickt (v := .bool true) rfl h185 rfl rfl ?_
        refine wpo_run rfl rfl rfl h178 ?_
        refine wpo_pickt (v := .bool true) rfl h182 rfl rfl ?_
        refine wpo_pickf (v := .bool true) rfl h178 rfl rfl ?_
        refine wpo_move (v := .bool true) rfl rfl ?_
        iterate 4 refine wpo_pass rfl rfl rfl rfl rfl ?_
        iterate 8 refine wpo_passu rfl rfl rfl rfl ?_
        refine wpo_pass rfl rfl rfl rfl rfl ?_
        refine wpo_pickt (v := .bool true) rfl rfl rfl rfl ?_
        exact wpo_nil ⟨⟨e165, e166, (congrArg Value.bool (by first | (simp only [h148, h149, h150, h151, h152, h153, h154, h155, h156, h157, h178, h180, h182, h183, h185, b0, b1, b2, b3, b4, b5, b6, b7, b8, b9]; done) | simp [h148, h149, h150, h151, h152, h153, h154, h155, h156, h157, h178, h180, h182, h183, h185]))⟩, hg176⟩
       ·
        have h187 := of_decide_eq_false h185
        refine wpo_run rfl rfl rfl h185 ?_
        refine wpo_fieldAddr (o' := 0) fo_31_0 e165 rfl rfl ?_
        refine wpo_run rfl rfl rfl h185 ?_
        refine wpo_load1 (v := .int .i64 m.t.kind) ot_3 rfl (k181.cell rfl) rfl ?_
        refine wpo_run rfl rfl rfl h185 ?_
        refine wpo_eql (q := decide (m.t.kind = 4)) rfl rfl rfl rfl ?_
        refine wpo_run rfl rfl rfl h182 ?_
        refine wpo_pickf (v := .bool (decide (m.t.kind = 4))) rfl h185 rfl rfl ?_
        refine wpo_run rfl rfl rfl h178 ?_
        refine wpo_pickt (v := .bool (decide (m.t.kind = 4))) rfl h182 rfl rfl ?_
        refine wpo_pickf (v := .bool (decide (m.t.kind = 4))) rfl h178 rfl rfl ?_
        refine wpo_move (v := .bool (decide (m.t.kind = 4))) rfl rfl ?_
        rcases bcases (decide (m.t.kind = 4)) with h188 | h188
        ·
         have h189 := of_decide_eq_true h188
         iterate 4 refine wpo_pass rfl rfl rfl h188 rfl ?_
         iterate 8 refine wpo_passu rfl rfl rfl rfl ?_
         refine wpo_pass rfl rfl rfl h188 rfl ?_
         refine wpo_pickt (v := .bool true) rfl h188 rfl rfl ?_
         exact wpo_nil ⟨⟨e165, e166, (congrArg Value.bool (by first | (simp only [h148, h149, h150, h151, h152, h153, h154, h155, h156, h157, h178, h180, h182, h183, h185, h188, b0, b1, b2, b3, b4, b5, b6, b7, b8, b9]; done) | simp [h148, h149, h150, h151, h152, h153, h154, h155, h156, h157, h178, h180, h182, h183, h185, h188]))⟩, hg176⟩
        ·
         have h190 := of_decide_eq_false h188
         refine wpo_run rfl rfl rfl h188 ?_
         refine wpo_fieldAddr (o' := 3) fo_31_2 e165 rfl rfl ?_
         refine wpo_run rfl rfl rfl h188 ?_
         refine wpo_load1 (v := .int .i64 m.t.ve) ot_3 rfl (k181.cell rfl) rfl ?_
         refine wpo_run rfl rfl rfl h188 ?_
         refine wpo_neq (q := !(decide (m.t.ve = 0))) rfl rfl rfl rfl ?_
         refine wpo_run rfl rfl rfl h188 ?_
         refine wpo_move (v := .bool (!(decide (m.t.ve = 0)))) rfl rfl ?_
         rcases bcases (!(decide (m.t.ve = 0))) with h191 | h191
         ·
          have h192 := nt_t h191
          have h193 := of_decide_eq_false h192
          refine wpo_run rfl rfl rfl h191 ?_
          refine wpo_fieldAddr (o' := 0) fo_31_0 e165 rfl rfl ?_
          refine wpo_run rfl rfl rfl h191 ?_
          refine wpo_load1 (v := .int .i64 m.t.kind) ot_3 rfl (k181.cell rfl) rfl ?_
          refine wpo_run rfl rfl rfl h191 ?_
          refine wpo_eql (q := decide (m.t.kind = 3)) rfl rfl rfl rfl ?_
          refine wpo_run rfl rfl rfl h191 ?_
          refine wpo_move (v := .bool (decide (m.t.kind = 3))) rfl rfl ?_
          rcases bcases (decide (m.t.kind = 3)) with h194 | h194
          ·
           have h195 := of_decide_eq_true h194
           iterate 3 refine wpo_pass rfl rfl rfl h194 rfl ?_
           refine wpo_run rfl rfl rfl h191 ?_
           refine wpo_pickt (v := .bool true) rfl h194 rfl rfl ?_
           refine wpo_run rfl rfl rfl h188 ?_
           refine wpo_pickt (v := .bool true) rfl h191 rfl rfl ?_
           refine wpo_pickf (v := .bool true) rfl h188 rfl rfl ?_
           exact wpo_nil ⟨⟨e165, e166, (congrArg Value.bool (by first | (simp only [h148, h149, h150, h151, h152, h153, h154, h155, h156, h157, h178, h180, h182, h183, h185, h188, h191, h192, h194, b0, b1, b2, b3, b4, b5, b6, b7, b8, b9]; done) | simp [h148, h149, h150, h151, h152, h153, h154, h155, h156, h157, h178, h180, h182, h183, h185, h188, h191, h192, h194]))⟩, hg176⟩
          ·
           have h196 := of_decide_eq_false h194
           refine wpo_run rfl rfl rfl h194 ?_
           refine wpo_fieldAddr (o' := 0) fo_31_0 e165 rfl rfl ?_
           refine wpo_run rfl rfl rfl h194 ?_
           refine wpo_load1 (v := .int .i64 m.t.kind) ot_3 rfl (k181.cell rfl) rfl ?_
           refine wpo_run rfl rfl rfl h194 ?_
           refine wpo_eql (q := decide (m.t.kind = 5)) rfl rfl rfl rfl ?_
           refine wpo_run rfl rfl rfl h191 ?_
           refine wpo_pickf (v := .bool (decide (m.t.kind = 5))) rfl h194 rfl rfl ?_
           refine wpo_run rfl rfl rfl h188 ?_
           refine wpo_pickt (v := .bool (decide (m.t.kind = 5))) rfl h191 rfl rfl ?_
           refine wpo_pickf (v := .bool (decide (m.t.kind = 5))) rfl h188 rfl rfl ?_
           exact wpo_nil ⟨⟨e165, e166, (congrArg Value.bool (by first | (simp only [h148, h149, h150, h151, h152, h153, h154, h155, h156, h157, h178, h180, h182, h183, h185, h188, h191, h192, h194, b0, b1, b2, b3, b4, b5, b6, b7, b8, b9]; done) | simp [h148, h149, h150, h151, h152, h153, h154, h155, h156, h157, h178, h180, h182, h183, h185, h188, h191, h192, h194]))⟩, hg176⟩
         ·
          have h197 := nt_f h191
          have h198 := of_decide_eq_true h197
          iterate 4 refine wpo_pass rfl rfl rfl h191 rfl ?_
          iterate 3 refine wpo_passu rfl rfl rfl rfl ?_
          refine wpo_pass rfl rfl rfl h191 rfl ?_
          refine wpo_run rfl rfl rfl h188 ?_
          refine wpo_pickf (v := .bool false) rfl h191 rfl rfl ?_
          refine wpo_pickf (v := .bool false) rfl h188 rfl rfl ?_
          exact wpo_nil ⟨⟨e165, e166, (congrArg Value.bool (by first | (simp only [h148, h149, h150, h151, h152, h153, h154, h155, h156, h157, h178, h180, h182, h183, h185, h188, h191, h197, b0, b1, b2, b3, b4, b5, b6, b7, b8, b9]; done) | simp [h148, h149, h150, h151, h152, h153, h154, h155, h156, h157, h178, h180, h182, h183, h185, h188, h191, h197]))⟩, hg176⟩
      ·
       have h199 := nt_f h182
       have h200 := of_decide_eq_true h199
       iterate 4 refine wpo_pass rfl rfl rfl h182 rfl ?_
       iterate 3 refine wpo_passu rfl rfl rfl rfl ?_
       refine wpo_pass rfl rfl rfl h182 rfl ?_
       refine wpo_run rfl rfl rfl h178 ?_
       refine wpo_pickf (v := .bool false) rfl h182 rfl rfl ?_
       refine wpo_pickf (v := .bool false) rfl h178 rfl rfl ?_
       refine wpo_move (v := .bool false) rfl rfl ?_
       refine wpo_run rfl rfl rfl rfl ?_
       refine wpo_fieldAddr (o' := 3) fo_31_2 e165 rfl rfl ?_
       refine wpo_run rfl rfl rfl rfl ?_
       refine wpo_load1 (v := .int .i64 m.t.ve) ot_3 rfl (k181.cell rfl) rfl ?_
       refine wpo_run rfl rfl rfl rfl ?_
       refine wpo_neq (q := !(decide (m.t.ve = 0))) rfl rfl rfl rfl ?_
       refine wpo_run rfl rfl rfl rfl ?_
       refine wpo_move (v := .bool (!(decide (m.t.ve = 0)))) rfl rfl ?_
       rcases bcases (!(decide (m.t.ve = 0))) with h201 | h201
       ·
        have h202 := nt_t h201
        have h203 := of_decide_eq_false h202
        refine wpo_run rfl rfl rfl h201 ?_
        refine wpo_fieldAddr (o' := 0) fo_31_0 e165 rfl rfl ?_
        refine wpo_run rfl rfl rfl h201 ?_
        refine wpo_load1 (v := .int .i64 m.t.kind) ot_3 rfl (k181.cell rfl) rfl ?_
        refine wpo_run rfl rfl rfl h201 ?_
        refine wpo_eql (q := decide (m.t.kind = 3)) rfl rfl rfl rfl ?_
        refine wpo_run rfl rfl rfl h201 ?_
        refine wpo_move (v := .bool (decide (m.t.kind = 3))) rfl rfl ?_
        rcases bcases (decide (m.t.kind = 3)) with h204 | h204
        ·
         have h205 := of_decide_eq_true h204
         iterate 3 refine wpo_pass rfl rfl rfl h204 rfl ?_
         refine wpo_run rfl rfl rfl h201 ?_
         refine wpo_pickt (v := .bool true) rfl h204 rfl rfl ?_
         refine wpo_run rfl rfl rfl rfl ?_
         refine wpo_pickt (v := .bool true) rfl h201 rfl rfl ?_
         refine wpo_pickf (v := .bool true) rfl rfl rfl rfl ?_
         exact wpo_nil ⟨⟨e165, e166, (congrArg Value.bool (by first | (simp only [h148, h149, h150, h151, h152, h153, h154, h155, h156, h157, h178, h180, h182, h199, h201, h202, h204, b0, b1, b2, b3, b4, b5, b6, b7, b8, b9]; done) | simp [h148, h149, h150, h151, h152, h153, h154, h155, h156, h157, h178, h180, h182, h199, h201, h202, h204]))⟩, hg176⟩
        ·
         have h206 := of_decide_eq_false h204
         refine wpo_run rfl rfl rfl h204 ?_
         refine wpo_fieldAddr (o' := 0) fo_31_0 e165 rfl rfl ?_
         refine wpo_run rfl rfl rfl h204 ?_
         refine wpo_load1 (v := .int .i64 m.t.kind) ot_3 rfl (k181.cell rfl) rfl ?_
         refine wpo_run rfl rfl rfl h204 ?_
         refine wpo_eql (q := decide (m.t.kind = 5)) rfl rfl rfl rfl ?_
         refine wpo_run rfl rfl rfl h201 ?_
         refine wpo_pickf (v := .bool (decide (m.t.kind = 5))) rfl h204 rfl rfl ?_
         refine wpo_run rfl rfl rfl rfl ?_
         refine wpo_pickt (v := .bool (decide (m.t.kind = 5))) rfl h201 rfl rfl ?_
         refine wpo_pickf (v := .bool (decide (m.t.kind = 5))) rfl rfl rfl rfl ?_
         exact wpo_nil ⟨⟨e165, e166, (congrArg Value.bool (by first | (simp only [h148, h149, h150, h151, h152, h153, h154, h155, h156, h157, h178, h180, h182, h199, h201, h202, h204, b0, b1, b2, b3, b4, b5, b6, b7, b8, b9]; done) | simp [h148, h149, h150, h151, h152, h153, h154, h155, h156, h157, h178, h180, h182, h199, h201, h202, h204]))⟩, hg176⟩
       ·
        have h207 := nt_f h201
        have h208 := of_decide_eq_true h207
        iterate 4 refine wpo_pass rfl rfl rfl h201 rfl ?_
        iterate 3 refine wpo_passu rfl rfl rfl rfl ?_
        refine wpo_pass rfl rfl rfl h201 rfl ?_
        refine wpo_run rfl rfl rfl rfl ?_
        refine wpo_pickf (v := .bool false) rfl h201 rfl rfl ?_
        refine wpo_pickf (v := .bool false) rfl rfl rfl rfl ?_
        exact wpo_nil ⟨⟨e165, e166, (congrArg Value.bool (by first | (simp only [h148, h149, h150, h151, h152, h153, h154, h155, h156, h157, h178, h180, h182, h199, h201, h207, b0, b1, b2, b3, b4, b5, b6, b7, b8, b9]; done) | simp [h148, h149, h150, h151, h152, h153, h154, h155, h156, h157, h178, h180, h182, h199, h201, h207]))⟩, hg176⟩
    ·
     rintro f209 w210 ⟨⟨e211, e212, e213⟩, hg214⟩
     have hb215 := low0 hb147 hg214
     refine wpf_cond e213 (fun h216 => ?_) (fun h216 => ?_)
     ·
      refine wpf_seq_region ?_
      refine wpo_assign (v := .bool false) rfl rfl ?_
      refine wpo_nil ?_
      refine wpf_ret ?_
      refine thn_r ?_
      refine ⟨.bool false, res1 rfl rfl, ?_, hb215⟩
      exact congrArg Value.bool (th_b h216)
     ·
      have h217 := or_l h216
      have h218 := or_l h217
      have h219 := nt_f h218
      have h220 := or_r h217
      have h221 := or_r h216
      refine wpf_skip ?_
      refine thn_n ?_
      refine wpf_seq ?_
      refine wpf_seq_region ?_
      refine wpo_assign (v := .int .i64 0) rfl rfl ?_
      refine wpo_nil ?_
      refine wpf_block ?_
      have k222 := (k159.grown0 hg214)
      refine wpf_loopN (fun mm f' w' => ∃ (k : Nat), mm = m.t.queue.length - k ∧ k ≤ m.t.queue.length ∧ ((m.t.queue.take k).all numQ) = true ∧ f' 4 = .int .i64 (k : Int) ∧ f' 1 = .pointer (some ⟨B101, 0, none⟩) ∧ w.grownBy w' none ∧ Blk w' B101 31 #[.int .i64 m.t.kind, .int .i64 m.t.lab.s, .int .i64 m.t.lab.v, .int .i64 m.t.ve, .int .i64 m.t.num, .slice m.sa m.t.slots.length m.sc, .slice m.qa m.t.queue.length m.qc, .int .i64 m.t.to]) (m.t.queue.length - 0) ⟨0, rfl, (Nat.zero_le _), rfl, rfl, e211, hb215, k222⟩ ?_
      rintro mm f223 w224 ⟨k, hm226, hk, ha, e227, e228, hb225, k229⟩
      refine wpf_seq ?_
      refine wpf_seq_region ?_
      refine wpo_move (v := .int .i64 (k : Int)) e227 rfl ?_
      refine wpo_fieldAddr (o' := 6) fo_31_5 e228 rfl rfl ?_
      refine wpo_load1 (v := .slice m.qa m.t.queue.length m.qc) ot_29 rfl (k229.cell rfl) rfl ?_
      refine wpo_len (by kernel_rfl) rfl rfl ?_
      refine wpo_lss (q := decide ((k : Int) < (m.t.queue.length : Int))) rfl rfl rfl rfl ?_
      refine wpo_nil ?_
      refine wpf_cond rfl (fun h230 => ?_) (fun h230 => ?_)
      ·
       have h231 := of_decide_eq_true h230
       refine wpf_skip ?_
       refine thn_n ?_
       refine wpf_seq ?_
       refine wpf_block ?_
       refine wpf_seq_region ?_
       refine wpo_fieldAddr (o' := 6) fo_31_5 e228 rfl rfl ?_
       refine wpo_load1 (v := .slice m.qa m.t.queue.length m.qc) ot_29 rfl (k229.cell rfl) rfl ?_
       refine wpo_move (v := .int .i64 (k : Int)) e227 rfl ?_
       obtain ⟨x232, hx233⟩ := get_lt (l := m.t.queue) (i := k) (by omega)
       obtain ⟨b234, q235, o236, ha237, ho238, hr239⟩ := SlAt.at hq (map_get hx233)
       refine wpo_indexE es_29 rfl rfl ha237 ho238 (by omega) (by omega) rfl ?_
       refine wpo_load1 (v := .int .i64 x232) ot_3 rfl ((range_low hr239 hb225) 0 _ rfl) rfl ?_
       refine wpo_call (vs := [.int .i64 x232, .int .i64 0, .int .i64 99]) gf_31 (args_cons rfl (args_cons rfl (args_cons rfl args_nil))) rfl (l6In_c x232 0 99 _) ?_
       rintro _ w240 ⟨rfl, hg241⟩
       have hb242 := low0 hb225 hg241
       refine wpo_not (b' := !inR x232 0 99) rfl rfl rfl ?_
       refine wpo_nil ?_
       refine wpf_cond rfl (fun h243 => ?_) (fun h243 => ?_)
       ·
        have h244 := nt_t h243
        refine wpf_seq_region ?_
        refine wpo_assign (v := .bool false) rfl rfl ?_
        refine wpo_nil ?_
        refine wpf_ret ?_
        refine blk_r ?_
        refine thn_r ?_
        refine thn_r ?_
        refine blk_r ?_
        refine thn_r ?_
        refine ⟨.bool false, res1 rfl rfl, ?_, hb242⟩
        exact congrArg Value.bool (th_q hx233 h244)
       ·
        have h245 := nt_f h243
        refine wpf_skip ?_
        refine blk_n ?_
        refine thn_n ?_
        refine wpf_region ?_
        refine wpo_move (v := .int .i64 (k : Int)) e227 rfl ?_
        refine wpo_add (c := (k : Int) + 1) rfl rfl (by omega) (by omega) (by omega) rfl ?_
        refine wpo_assign (v := .int .i64 ((k : Int) + 1)) rfl rfl ?_
        refine wpo_nil ?_
        refine thn_n ?_
        have k246 := (k229.grown0 hg241)
        exact ⟨m.t.queue.length - (k + 1), by omega, (k + 1), rfl, (by omega), (take_all_succ (p := numQ) ha hx233 h245), rfl, e228, hb242, k246⟩
      ·
       have h247 := of_decide_eq_false h230
       refine wpf_exit ?_
       refine thn_e ?_
       refine thn_e ?_
       refine blk_e ?_
       refine thn_n ?_
       refine wpf_seq ?_
       refine wpf_seq_region ?_
       refine wpo_assign (v := .int .i64 0) rfl rfl ?_
       refine wpo_nil ?_
       refine wpf_block ?_
       refine wpf_loopN (fun mm f' w' => ∃ (j : Nat), mm = m.t.slots.length - j ∧ j ≤ m.t.slots.length ∧ ((m.t.slots.take j).all rightOk) = true ∧ f' 5 = .int .i64 (j : Int) ∧ f' 1 = .pointer (some ⟨B101, 0, none⟩) ∧ w.grownBy w' none ∧ Blk w' B101 31 #[.int .i64 m.t.kind, .int .i64 m.t.lab.s, .int .i64 m.t.lab.v, .int .i64 m.t.ve, .int .i64 m.t.num, .slice m.sa m.t.slots.length m.sc, .slice m.qa m.t.queue.length m.qc, .int .i64 m.t.to]) (m.t.slots.length - 0) ⟨0, rfl, (Nat.zero_le _), rfl, rfl, e228, hb225, k229⟩ ?_
       rintro mm f248 w249 ⟨j, hm251, hj, hb, e252, e253, hb250, k254⟩
       refine wpf_seq ?_
       refine wpf_seq_region ?_
       refine wpo_move (v := .int .i64 (j : Int)) e252 rfl ?_
       refine wpo_fieldAddr (o' := 5) fo_31_4 e253 rfl rfl ?_
       refine wpo_load1 (v := .slice m.sa m.t.slots.length m.sc) ot_28 rfl (k254.cell rfl) rfl ?_
       refine wpo_len (by kernel_rfl) rfl rfl ?_
       refine wpo_lss (q := decide ((j : Int) < (m.t.slots.length : Int))) rfl rfl rfl rfl ?_
       refine wpo_nil ?_
       refine wpf_cond rfl (fun h255 => ?_) (fun h255 => ?_)
       ·
        have h256 := of_decide_eq_true h255
        refine wpf_skip ?_
        refine thn_n ?_
        refine wpf_seq ?_
        refine wpf_block ?_
        refine wpf_seq_region ?_
        refine wpo_fieldAddr (o' := 5) fo_31_4 e253 rfl rfl ?_
        refine wpo_load1 (v := .slice m.sa m.t.slots.length m.sc) ot_28 rfl (k254.cell rfl) rfl ?_
        refine wpo_move (v := .int .i64 (j : Int)) e252 rfl ?_
        obtain ⟨x257, hx258⟩ := get_lt (l := m.t.slots) (i := j) (by omega)
        obtain ⟨b259, q260, o261, ha262, ho263, hr264⟩ := SlAt.at hs (map_get hx258)
        refine wpo_indexE es_28 rfl rfl ha262 ho263 (by omega) (by omega) rfl ?_
        refine wpo_loadn (vs := [.int .i64 x257.th, .int .i64 x257.ve, .bool x257.rd, .bool x257.wr, .bool x257.wk]) rt_39 rfl rfl (range_sub (range_low hr264 hb250) 0 5 rfl) rfl ?_
        refine wpo_call (vs := [.agg #[.int .i64 x257.th, .int .i64 x257.ve, .bool x257.rd, .bool x257.wr, .bool x257.wk]]) gf_44 (args_cons rfl args_nil) rfl (sRightOk_c x257 _) ?_
        rintro _ w265 ⟨rfl, hg266⟩
        have hb267 := low0 hb250 hg266
        refine wpo_not (b' := !rightOk x257) rfl rfl rfl ?_
        refine wpo_nil ?_
        refine wpf_cond rfl (fun h268 => ?_) (fun h268 => ?_)
        ·
         have h269 := nt_t h268
         refine wpf_seq_region ?_
         refine wpo_assign (v := .bool false) rfl rfl ?_
         refine wpo_nil ?_
         refine wpf_ret ?_
         refine blk_r ?_
         refine thn_r ?_
         refine thn_r ?_
         refine blk_r ?_
         refine thn_r ?_
         refine ⟨.bool false, res1 rfl rfl, ?_, hb267⟩
         exact congrArg Value.bool (th_r hx258 h269)
        ·
         have h270 := nt_f h268
         refine wpf_skip ?_
         refine blk_n ?_
         refine thn_n ?_
         refine wpf_region ?_
         refine wpo_move (v := .int .i64 (j : Int)) e252 rfl ?_
         refine wpo_add (c := (j : Int) + 1) rfl rfl (by omega) (by omega) (by omega) rfl ?_
         refine wpo_assign (v := .int .i64 ((j : Int) + 1)) rfl rfl ?_
         refine wpo_nil ?_
         refine thn_n ?_
         have k271 := (k254.grown0 hg266)
         exact ⟨m.t.slots.length - (j + 1), by omega, (j + 1), rfl, (by omega), (take_all_succ (p := rightOk) hb hx258 h270), rfl, e253, hb267, k271⟩
       ·
        have h272 := of_decide_eq_false h255
        refine wpf_exit ?_
        refine thn_e ?_
        refine thn_e ?_
        refine blk_e ?_
        refine thn_n ?_
        refine wpf_seq ?_
        refine wpf_seq_region_mid (fun f' w' => (f' 1 = .pointer (some ⟨B101, 0, none⟩) ∧ f' 114 = .bool ((((decide (m.t.kind = 2)) || (decide (m.t.kind = 3))) && (!(decide ((m.t.slots.length : Int) = 4)))) || ((!((decide (m.t.kind = 2)) || (decide (m.t.kind = 3)))) && (!(decide ((m.t.slots.length : Int) = 0)))))) ∧ w249.grownBy w' none) ?_ ?_
        ·
         refine wpo_fieldAddr (o' := 0) fo_31_0 e253 rfl rfl ?_
         refine wpo_load1 (v := .int .i64 m.t.kind) ot_3 rfl (k254.cell rfl) rfl ?_
         refine wpo_call (vs := [.int .i64 m.t.kind]) gf_52 (args_cons rfl args_nil) rfl (l3Slots_c m.t.kind _) ?_
         rintro _ w284 ⟨rfl, hg285⟩
         have hb286 := low0 hb250 hg285
         refine wpo_move (v := .bool ((decide (m.t.kind = 2)) || (decide (m.t.kind = 3)))) rfl rfl ?_
         rcases bcases ((decide (m.t.kind = 2)) || (decide (m.t.kind = 3))) with h287 | h287
         ·
          refine wpo_run rfl rfl rfl h287 ?_
          refine wpo_fieldAddr (o' := 5) fo_31_4 e253 rfl rfl ?_
          refine wpo_run rfl rfl rfl h287 ?_
          have k288 := (k254.grown0 hg285)
          refine wpo_load1 (v := .slice m.sa m.t.slots.length m.sc) ot_28 rfl (k288.cell rfl) rfl ?_
          refine wpo_run rfl rfl rfl h287 ?_
          refine wpo_len (by kernel_rfl) rfl rfl ?_
          refine wpo_run rfl rfl rfl h287 ?_
          refine wpo_neq (q := !(decide ((m.t.slots.length : Int) = 4))) rfl rfl rfl rfl ?_
          refine wpo_pickt (v := .bool (!(decide ((m.t.slots.length : Int) = 4)))) rfl h287 rfl rfl ?_
          refine wpo_move (v := .bool (!(decide ((m.t.slots.length : Int) = 4)))) rfl rfl ?_
          rcases bcases (!(decide ((m.t.slots.length : Int) = 4))) with h289 | h289
          ·
           have h290 := nt_t h289
           have h291 := of_decide_eq_false h290
           iterate 5 refine wpo_pass rfl rfl rfl h289 rfl ?_
           iterate 4 refine wpo_passu rfl rfl rfl rfl ?_
           refine wpo_pass rfl rfl rfl h289 rfl ?_
           refine wpo_pickt (v := .bool true) rfl h289 rfl rfl ?_
           exact wpo_nil ⟨⟨e253, (congrArg Value.bool (by first | (simp only [h148, h149, h150, h151, h152, h153, h154, h155, h156, h157, h216, h217, h218, h219, h220, h221, h230, h255, h287, h289, h290, b0, b1, b2, b3, b4, b5, b6, b7, b8, b9]; done) | simp [h148, h149, h150, h151, h152, h153, h154, h155, h156, h157, h216, h217, h218, h219, h220, h221, h230, h255, h287, h289, h290]))⟩, hg285⟩
          ·
           have h292 := nt_f h289
           have h293 := of_decide_eq_true h292
           refine wpo_run rfl rfl rfl h289 ?_
           refine wpo_fieldAddr (o' := 0) fo_31_0 e253 rfl rfl ?_
           refine wpo_run rfl rfl rfl h289 ?_
           refine wpo_load1 (v := .int .i64 m.t.kind) ot_3 rfl (k288.cell rfl) rfl ?_
           refine wpo_run rfl rfl rfl h289 ?_
           refine wpo_call (vs := [.int .i64 m.t.kind]) gf_52 (args_cons rfl args_nil) rfl (l3Slots_c m.t.kind _) ?_
           rintro _ w294 ⟨rfl, hg295⟩
           have hb296 := low0 hb286 hg295
           refine wpo_run rfl rfl rfl h289 ?_
           refine wpo_not (b' := !((decide (m.t.kind = 2)) || (decide (m.t.kind = 3)))) rfl rfl rfl ?_
           refine wpo_run rfl rfl rfl h289 ?_
           refine wpo_move (v := .bool (!((decide (m.t.kind = 2)) || (decide (m.t.kind = 3))))) rfl rfl ?_
           iterate 4 refine wpo_pass rfl rfl rfl (not_of_t h287) rfl ?_
           refine wpo_run rfl rfl rfl h289 ?_
           refine wpo_pickf (v := .bool false) rfl (not_of_t h287) rfl rfl ?_
           refine wpo_pickf (v := .bool false) rfl h289 rfl rfl ?_
           exact wpo_nil ⟨⟨e253, (congrArg Value.bool (by first | (simp only [h148, h149, h150, h151, h152, h153, h154, h155, h156, h157, h216, h217, h218, h219, h220, h221, h230, h255, h287, h289, h292, b0, b1, b2, b3, b4, b5, b6, b7, b8, b9]; done) | simp [h148, h149, h150, h151, h152, h153, h154, h155, h156, h157, h216, h217, h218, h219, h220, h221, h230, h255, h287, h289, h292]))⟩, (grown_trans hg285 hg295)⟩
         ·
          have h297 := or_l h287
          have h298 := of_decide_eq_false h297
          have h299 := or_r h287
          have h300 := of_decide_eq_false h299
          iterate 4 refine wpo_pass rfl rfl rfl h287 rfl ?_
          refine wpo_pickf (v := .bool false) rfl h287 rfl rfl ?_
          refine wpo_move (v := .bool false) rfl rfl ?_
          refine wpo_run rfl rfl rfl rfl ?_
          refine wpo_fieldAddr (o' := 0) fo_31_0 e253 rfl rfl ?_
          refine wpo_run rfl rfl rfl rfl ?_
          have k301 := (k254.grown0 hg285)
          refine wpo_load1 (v := .int .i64 m.t.kind) ot_3 rfl (k301.cell rfl) rfl ?_
          refine wpo_run rfl rfl rfl rfl ?_
          refine wpo_call (vs := [.int .i64 m.t.kind]) gf_52 (args_cons rfl args_nil) rfl (l3Slots_c m.t.kind _) ?_
          rintro _ w302 ⟨rfl, hg303⟩
          have hb304 := low0 hb286 hg303
          refine wpo_run rfl rfl rfl rfl ?_
          refine wpo_not (b' := !((decide (m.t.kind = 2)) || (decide (m.t.kind = 3)))) rfl rfl rfl ?_
          refine wpo_run rfl rfl rfl rfl ?_
          refine wpo_move (v := .bool (!((decide (m.t.kind = 2)) || (decide (m.t.kind = 3))))) rfl rfl ?_
          refine wpo_run rfl rfl rfl (not_of_f h287) ?_
          refine wpo_fieldAddr (o' := 5) fo_31_4 e253 rfl rfl ?_
          refine wpo_run rfl rfl rfl (not_of_f h287) ?_
          have k305 := (k301.grown0 hg303)
          refine wpo_load1 (v := .slice m.sa m.t.slots.length m.sc) ot_28 rfl (k305.cell rfl) rfl ?_
          refine wpo_run rfl rfl rfl (not_of_f h287) ?_
          refine wpo_len (by kernel_rfl) rfl rfl ?_
          refine wpo_run rfl rfl rfl (not_of_f h287) ?_
          refine wpo_neq (q := !(decide ((m.t.slots.length : Int) = 0))) rfl rfl rfl rfl ?_
          refine wpo_run rfl rfl rfl rfl ?_
          refine wpo_pickt (v := .bool (!(decide ((m.t.slots.length : Int) = 0)))) rfl (not_of_f h287) rfl rfl ?_
          refine wpo_pickf (v := .bool (!(decide ((m.t.slots.length : Int) = 0)))) rfl rfl rfl rfl ?_
          exact wpo_nil ⟨⟨e253, (congrArg Value.bool (by first | (simp only [h148, h149, h150, h151, h152, h153, h154, h155, h156, h157, h216, h217, h218, h219, h220, h221, h230, h255, h287, h297, h299, b0, b1, b2, b3, b4, b5, b6, b7, b8, b9]; done) | simp [h148, h149, h150, h151, h152, h153, h154, h155, h156, h157, h216, h217, h218, h219, h220, h221, h230, h255, h287, h297, h299]))⟩, (grown_trans hg285 hg303)⟩
        ·
         rintro f306 w307 ⟨⟨e308, e309⟩, hg310⟩
         have hb311 := low0 hb250 hg310
         refine wpf_cond e309 (fun h312 => ?_) (fun h312 => ?_)
         ·
          refine wpf_seq_region ?_
          refine wpo_assign (v := .bool false) rfl rfl ?_
          refine wpo_nil ?_
          refine wpf_ret ?_
          refine thn_r ?_
          refine ⟨.bool false, res1 rfl rfl, ?_, hb311⟩
          exact congrArg Value.bool (th_d h312)
         ·
          have h313 := or_l h312
          have h314 := or_r h312
          refine wpf_skip ?_
          refine thn_n ?_
          refine wpf_seq_region_mid (fun f' w' => (f' 2 = .bool (((decide (m.t.kind = 4)) || (decide ((m.t.queue.length : Int) = 0))) && (((decide (m.t.kind = 5)) && inR m.t.to 1 8) || ((!(decide (m.t.kind = 5))) && (decide (m.t.to = 0)))))) ∧ w307.grownBy w' none) ?_ ?_
          ·
           refine wpo_fieldAddr (o' := 0) fo_31_0 e308 rfl rfl ?_
           have k321 := (k254.grown0 hg310)
           refine wpo_load1 (v := .int .i64 m.t.kind) ot_3 rfl (k321.cell rfl) rfl ?_
           refine wpo_eql (q := decide (m.t.kind = 4)) rfl rfl rfl rfl ?_
           refine wpo_move (v := .bool (decide (m.t.kind = 4))) rfl rfl ?_
           rcases bcases (decide (m.t.kind = 4)) with h322 | h322
           ·
            have h323 := of_decide_eq_true h322
            iterate 4 refine wpo_pass rfl rfl rfl h322 rfl ?_
            refine wpo_pickt (v := .bool true) rfl h322 rfl rfl ?_
            refine wpo_move (v := .bool true) rfl rfl ?_
            refine wpo_run rfl rfl rfl rfl ?_
            refine wpo_fieldAddr (o' := 0) fo_31_0 e308 rfl rfl ?_
            refine wpo_run rfl rfl rfl rfl ?_
            refine wpo_load1 (v := .int .i64 m.t.kind) ot_3 rfl (k321.cell rfl) rfl ?_
            refine wpo_run rfl rfl rfl rfl ?_
            refine wpo_eql (q := decide (m.t.kind = 5)) rfl rfl rfl rfl ?_
            refine wpo_run rfl rfl rfl rfl ?_
            refine wpo_move (v := .bool (decide (m.t.kind = 5))) rfl rfl ?_
            rcases bcases (decide (m.t.kind = 5)) with h324 | h324
            ·
             have h325 := of_decide_eq_true h324
             refine wpo_run rfl rfl rfl h324 ?_
             refine wpo_fieldAddr (o' := 7) fo_31_6 e308 rfl rfl ?_
             refine wpo_run rfl rfl rfl h324 ?_
             refine wpo_load1 (v := .int .i64 m.t.to) ot_3 rfl (k321.cell rfl) rfl ?_
             refine wpo_run rfl rfl rfl h324 ?_
             refine wpo_call (vs := [.int .i64 m.t.to, .int .i64 1, .int .i64 8]) gf_31 (args_cons rfl (args_cons rfl (args_cons rfl args_nil))) rfl (l6In_c m.t.to 1 8 _) ?_
             rintro _ w326 ⟨rfl, hg327⟩
             have hb328 := low0 hb311 hg327
             refine wpo_run rfl rfl rfl rfl ?_
             refine wpo_pickt (v := .bool (inR m.t.to 1 8)) rfl h324 rfl rfl ?_
             refine wpo_run rfl rfl rfl rfl ?_
             refine wpo_move (v := .bool (inR m.t.to 1 8)) rfl rfl ?_
             rcases bcases (inR m.t.to 1 8) with h329 | h329
             ·
              iterate 4 refine wpo_pass rfl rfl rfl h329 rfl ?_
              iterate 3 refine wpo_passu rfl rfl rfl rfl ?_
              refine wpo_pass rfl rfl rfl h329 rfl ?_
              refine wpo_run rfl rfl rfl rfl ?_
              refine wpo_pickt (v := .bool true) rfl h329 rfl rfl ?_
              refine wpo_pickt (v := .bool true) rfl rfl rfl rfl ?_
              refine wpo_assign (v := .bool true) rfl rfl ?_
              exact wpo_nil ⟨(congrArg Value.bool (by first | (simp only [h148, h149, h150, h151, h152, h153, h154, h155, h156, h157, h216, h217, h218, h219, h220, h221, h230, h255, h312, h313, h314, h322, h324, h329, b0, b1, b2, b3, b4, b5, b6, b7, b8, b9]; done) | simp [h148, h149, h150, h151, h152, h153, h154, h155, h156, h157, h216, h217, h218, h219, h220, h221, h230, h255, h312, h313, h314, h322, h324, h329])), hg327⟩
             ·
              refine wpo_run rfl rfl rfl h329 ?_
              refine wpo_fieldAddr (o' := 0) fo_31_0 e308 rfl rfl ?_
              refine wpo_run rfl rfl rfl h329 ?_
              have k330 := (k321.grown0 hg327)
              refine wpo_load1 (v := .int .i64 m.t.kind) ot_3 rfl (k330.cell rfl) rfl ?_
              refine wpo_run rfl rfl rfl h329 ?_
              refine wpo_neq (q := !(decide (m.t.kind = 5))) rfl rfl rfl rfl ?_
              refine wpo_run rfl rfl rfl h329 ?_
              refine wpo_move (v := .bool (!(decide (m.t.kind = 5)))) rfl rfl ?_
              iterate 3 refine wpo_pass rfl rfl rfl (not_of_t h324) rfl ?_
              refine wpo_run rfl rfl rfl h329 ?_
              refine wpo_pickf (v := .bool false) rfl (not_of_t h324) rfl rfl ?_
              refine wpo_run rfl rfl rfl rfl ?_
              refine wpo_pickf (v := .bool false) rfl h329 rfl rfl ?_
              refine wpo_pickt (v := .bool false) rfl rfl rfl rfl ?_
              refine wpo_assign (v := .bool false) rfl rfl ?_
              exact wpo_nil ⟨(congrArg Value.bool (by first | (simp only [h148, h149, h150, h151, h152, h153, h154, h155, h156, h157, h216, h217, h218, h219, h220, h221, h230, h255, h312, h313, h314, h322, h324, h329, b0, b1, b2, b3, b4, b5, b6, b7, b8, b9]; done) | simp [h148, h149, h150, h151, h152, h153, h154, h155, h156, h157, h216, h217, h218, h219, h220, h221, h230, h255, h312, h313, h314, h322, h324, h329])), hg327⟩
            ·
             have h331 := of_decide_eq_false h324
             iterate 3 refine wpo_pass rfl rfl rfl h324 rfl ?_
             refine wpo_run rfl rfl rfl rfl ?_
             refine wpo_pickf (v := .bool false) rfl h324 rfl rfl ?_
             refine wpo_run rfl rfl rfl rfl ?_
             refine wpo_move (v := .bool false) rfl rfl ?_
             refine wpo_run rfl rfl rfl rfl ?_
             refine wpo_fieldAddr (o' := 0) fo_31_0 e308 rfl rfl ?_
             refine wpo_run rfl rfl rfl rfl ?_
             refine wpo_load1 (v := .int .i64 m.t.kind) ot_3 rfl (k321.cell rfl) rfl ?_
             refine wpo_run rfl rfl rfl rfl ?_
             refine wpo_neq (q := !(decide (m.t.kind = 5))) rfl rfl rfl rfl ?_
             refine wpo_run rfl rfl rfl rfl ?_
             refine wpo_move (v := .bool (!(decide (m.t.kind = 5)))) rfl rfl ?_
             refine wpo_run rfl rfl rfl (not_of_f h324) ?_
             refine wpo_fieldAddr (o' := 7) fo_31_6 e308 rfl rfl ?_
             refine wpo_run rfl rfl rfl (not_of_f h324) ?_
             refine wpo_load1 (v := .int .i64 m.t.to) ot_3 rfl (k321.cell rfl) rfl ?_
             refine wpo_run rfl rfl rfl (not_of_f h324) ?_
             refine wpo_eql (q := decide (m.t.to = 0)) rfl rfl rfl rfl ?_
             refine wpo_run rfl rfl rfl rfl ?_
             refine wpo_pickt (v := .bool (decide (m.t.to = 0))) rfl (not_of_f h324) rfl rfl ?_
             refine wpo_run rfl rfl rfl rfl ?_
             refine wpo_pickf (v := .bool (decide (m.t.to = 0))) rfl rfl rfl rfl ?_
             refine wpo_pickt (v := .bool (decide (m.t.to = 0))) rfl rfl rfl rfl ?_
             refine wpo_assign (v := .bool (decide (m.t.to = 0))) rfl rfl ?_
             exact wpo_nil ⟨(congrArg Value.bool (by first | (simp only [h148, h149, h150, h151, h152, h153, h154, h155, h156, h157, h216, h217, h218, h219, h220, h221, h230, h255, h312, h313, h314, h322, h324, b0, b1, b2, b3, b4, b5, b6, b7, b8, b9]; done) | simp [h148, h149, h150, h151, h152, h153, h154, h155, h156, h157, h216, h217, h218, h219, h220, h221, h230, h255, h312, h313, h314, h322, h324])), (World.grownBy.refl _ _)⟩
           ·
            have h332 := of_decide_eq_false h322
            refine wpo_run rfl rfl rfl h322 ?_
            refine wpo_fieldAddr (o' := 6) fo_31_5 e308 rfl rfl ?_
            refine wpo_run rfl rfl rfl h322 ?_
            refine wpo_load1 (v := .slice m.qa m.t.queue.length m.qc) ot_29 rfl (k321.cell rfl) rfl ?_
            refine wpo_run rfl rfl rfl h322 ?_
            refine wpo_len (by kernel_rfl) rfl rfl ?_
            refine wpo_run rfl rfl rfl h322 ?_
            refine wpo_eql (q := decide ((m.t.queue.length : Int) = 0)) rfl rfl rfl rfl ?_
            refine wpo_pickf (v := .bool (decide ((m.t.queue.length : Int) = 0))) rfl h322 rfl rfl ?_
            refine wpo_move (v := .bool (decide ((m.t.queue.length : Int) = 0))) rfl rfl ?_
            rcases bcases (decide ((m.t.queue.length : Int) = 0)) with h333 | h333
            ·
             have h334 := of_decide_eq_true h333
             refine wpo_run rfl rfl rfl h333 ?_
             refine wpo_fieldAddr (o' := 0) fo_31_0 e308 rfl rfl ?_
             refine wpo_run rfl rfl rfl h333 ?_
             refine wpo_load1 (v := .int .i64 m.t.kind) ot_3 rfl (k321.cell rfl) rfl ?_
             refine wpo_run rfl rfl rfl h333 ?_
             refine wpo_eql (q := decide (m.t.kind = 5)) rfl rfl rfl rfl ?_
             refine wpo_run rfl rfl rfl h333 ?_
             refine wpo_move (v := .bool (decide (m.t.kind = 5))) rfl rfl ?_
             rcases bcases (decide (m.t.kind = 5)) with h335 | h335
             ·
              have h336 := of_decide_eq_true h335
              refine wpo_run rfl rfl rfl h335 ?_
              refine wpo_fieldAddr (o' := 7) fo_31_6 e308 rfl rfl ?_
              refine wpo_run rfl rfl rfl h335 ?_
              refine wpo_load1 (v := .int .i64 m.t.to) ot_3 rfl (k321.cell rfl) rfl ?_
              refine wpo_run rfl rfl rfl h335 ?_
              refine wpo_call (vs := [.int .i64 m.t.to, .int .i64 1, .int .i64 8]) gf_31 (args_cons rfl (args_cons rfl (args_cons rfl args_nil))) rfl (l6In_c m.t.to 1 8 _) ?_
              rintro _ w337 ⟨rfl, hg338⟩
              have hb339 := low0 hb311 hg338
              refine wpo_run rfl rfl rfl h333 ?_
              refine wpo_pickt (v := .bool (inR m.t.to 1 8)) rfl h335 rfl rfl ?_
              refine wpo_run rfl rfl rfl h333 ?_
              refine wpo_move (v := .bool (inR m.t.to 1 8)) rfl rfl ?_
              rcases bcases (inR m.t.to 1 8) with h340 | h340
              ·
               iterate 4 refine wpo_pass rfl rfl rfl h340 rfl ?_
               iterate 3 refine wpo_passu rfl rfl rfl rfl ?_
               refine wpo_pass rfl rfl rfl h340 rfl ?_
               refine wpo_run rfl rfl rfl h333 ?_
               refine wpo_pickt (v := .bool true) rfl h340 rfl rfl ?_
               refine wpo_pickt (v := .bool true) rfl h333 rfl rfl ?_
               refine wpo_assign (v := .bool true) rfl rfl ?_
               exact wpo_nil ⟨(congrArg Value.bool (by first | (simp only [h148, h149, h150, h151, h152, h153, h154, h155, h156, h157, h216, h217, h218, h219, h220, h221, h230, h255, h312, h313, h314, h322, h333, h335, h340, b0, b1, b2, b3, b4, b5, b6, b7, b8, b9]; done) | simp [h148, h149, h150, h151, h152, h153, h154, h155, h156, h157, h216, h217, h218, h219, h220, h221, h230, h255, h312, h313, h314, h322, h333, h335, h340])), hg338⟩
              ·
               refine wpo_run rfl rfl rfl h340 ?_
               refine wpo_fieldAddr (o' := 0) fo_31_0 e308 rfl rfl ?_
               refine wpo_run rfl rfl rfl h340 ?_
               have k341 := (k321.grown0 hg338)
               refine wpo_load1 (v := .int .i64 m.t.kind) ot_3 rfl (k341.cell rfl) rfl ?_
               refine wpo_run rfl rfl rfl h340 ?_
               refine wpo_neq (q := !(decide (m.t.kind = 5))) rfl rfl rfl rfl ?_
               refine wpo_run rfl rfl rfl h340 ?_
               refine wpo_move (v := .bool (!(decide (m.t.kind = 5)))) rfl rfl ?_
               iterate 3 refine wpo_pass rfl rfl rfl (not_of_t h335) rfl ?_
               refine wpo_run rfl rfl rfl h340 ?_
               refine wpo_pickf (v := .bool false) rfl (not_of_t h335) rfl rfl ?_
               refine wpo_run rfl rfl rfl h333 ?_
               refine wpo_pickf (v := .bool false) rfl h340 rfl rfl ?_
               refine wpo_pickt (v := .bool false) rfl h333 rfl rfl ?_
               refine wpo_assign (v := .bool false) rfl rfl ?_
               exact wpo_nil ⟨(congrArg Value.bool (by first | (simp only [h148, h149, h150, h151, h152, h153, h154, h155, h156, h157, h216, h217, h218, h219, h220, h221, h230, h255, h312, h313, h314, h322, h333, h335, h340, b0, b1, b2, b3, b4, b5, b6, b7, b8, b9]; done) | simp [h148, h149, h150, h151, h152, h153, h154, h155, h156, h157, h216, h217, h218, h219, h220, h221, h230, h255, h312, h313, h314, h322, h333, h335, h340])), hg338⟩
             ·
              have h342 := of_decide_eq_false h335
              iterate 3 refine wpo_pass rfl rfl rfl h335 rfl ?_
              refine wpo_run rfl rfl rfl h333 ?_
              refine wpo_pickf (v := .bool false) rfl h335 rfl rfl ?_
              refine wpo_run rfl rfl rfl h333 ?_
              refine wpo_move (v := .bool false) rfl rfl ?_
              refine wpo_run rfl rfl rfl rfl ?_
              refine wpo_fieldAddr (o' := 0) fo_31_0 e308 rfl rfl ?_
              refine wpo_run rfl rfl rfl rfl ?_
              refine wpo_load1 (v := .int .i64 m.t.kind) ot_3 rfl (k321.cell rfl) rfl ?_
              refine wpo_run rfl rfl rfl rfl ?_
              refine wpo_neq (q := !(decide (m.t.kind = 5))) rfl rfl rfl rfl ?_
              refine wpo_run rfl rfl rfl rfl ?_
              refine wpo_move (v := .bool (!(decide (m.t.kind = 5)))) rfl rfl ?_
              refine wpo_run rfl rfl rfl (not_of_f h335) ?_
              refine wpo_fieldAddr (o' := 7) fo_31_6 e308 rfl rfl ?_
              refine wpo_run rfl rfl rfl (not_of_f h335) ?_
              refine wpo_load1 (v := .int .i64 m.t.to) ot_3 rfl (k321.cell rfl) rfl ?_
              refine wpo_run rfl rfl rfl (not_of_f h335) ?_
              refine wpo_eql (q := decide (m.t.to = 0)) rfl rfl rfl rfl ?_
              refine wpo_run rfl rfl rfl rfl ?_
              refine wpo_pickt (v := .bool (decide (m.t.to = 0))) rfl (not_of_f h335) rfl rfl ?_
              refine wpo_run rfl rfl rfl h333 ?_
              refine wpo_pickf (v := .bool (decide (m.t.to = 0))) rfl rfl rfl rfl ?_
              refine wpo_pickt (v := .bool (decide (m.t.to = 0))) rfl h333 rfl rfl ?_
              refine wpo_assign (v := .bool (decide (m.t.to = 0))) rfl rfl ?_
              exact wpo_nil ⟨(congrArg Value.bool (by first | (simp only [h148, h149, h150, h151, h152, h153, h154, h155, h156, h157, h216, h217, h218, h219, h220, h221, h230, h255, h312, h313, h314, h322, h333, h335, b0, b1, b2, b3, b4, b5, b6, b7, b8, b9]; done) | simp [h148, h149, h150, h151, h152, h153, h154, h155, h156, h157, h216, h217, h218, h219, h220, h221, h230, h255, h312, h313, h314, h322, h333, h335])), (World.grownBy.refl _ _)⟩
            ·
             have h343 := of_decide_eq_false h333
             iterate 4 refine wpo_pass rfl rfl rfl h333 rfl ?_
             iterate 3 refine wpo_passu rfl rfl rfl rfl ?_
             refine wpo_pass rfl rfl rfl h333 rfl ?_
             refine wpo_pass rfl rfl rfl h333 rfl ?_
             iterate 8 refine wpo_passu rfl rfl rfl rfl ?_
             refine wpo_pass rfl rfl rfl h333 rfl ?_
             refine wpo_pickf (v := .bool false) rfl h333 rfl rfl ?_
             refine wpo_assign (v := .bool false) rfl rfl ?_
             exact wpo_nil ⟨(congrArg Value.bool (by first | (simp only [h148, h149, h150, h151, h152, h153, h154, h155, h156, h157, h216, h217, h218, h219, h220, h221, h230, h255, h312, h313, h314, h322, h333, b0, b1, b2, b3, b4, b5, b6, b7, b8, b9]; done) | simp [h148, h149, h150, h151, h152, h153, h154, h155, h156, h157, h216, h217, h218, h219, h220, h221, h230, h255, h312, h313, h314, h322, h333])), (World.grownBy.refl _ _)⟩
          ·
           rintro f344 w345 ⟨e346, hg347⟩
           have hb348 := low0 hb311 hg347
           refine wpf_ret ?_
           refine ⟨.bool (((decide (m.t.kind = 4)) || (decide ((m.t.queue.length : Int) = 0))) && (((decide (m.t.kind = 5)) && inR m.t.to 1 8) || ((!(decide (m.t.kind = 5))) && (decide (m.t.to = 0))))), res1 rfl e346, ?_, hb348⟩
           exact congrArg Value.bool (th_e h148 h216 (all_of_take (p := numQ) ha (by omega)) (all_of_take (p := rightOk) hb (by omega)) h312)

end Go.Proofs.YtemimomfjapgiaaDoor
