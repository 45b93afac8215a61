/- Walks, printed by a program of mine (gen.py) out of the functions. -/
import Derived.Test.YtlkmdoebmklbbaaV
import Derived.Test.YtlkmdoebmklbbaaY
namespace Go.Proofs.Ytlkmdoebmklbbaa
open Go.RowKit Go.Dw
set_option maxRecDepth 100000
set_option maxHeartbeats 4000000
set_option linter.unusedSimpArgs false
set_option linter.unusedVariables false
theorem es_66 : elemSz Try.prog 66 = some 5 := by kernel_rfl
theorem es_69 : elemSz Try.prog 69 = some 5 := by kernel_rfl
theorem fo_115_0 : fieldOff Try.prog 115 0 = some 0 := by kernel_rfl
theorem fo_115_1 : fieldOff Try.prog 115 1 = some 1 := by kernel_rfl
theorem fo_115_2 : fieldOff Try.prog 115 2 = some 2 := by kernel_rfl
theorem fo_115_3 : fieldOff Try.prog 115 3 = some 3 := by kernel_rfl
theorem fo_115_4 : fieldOff Try.prog 115 4 = some 4 := by kernel_rfl
theorem fo_76_0 : fieldOff Try.prog 76 0 = some 0 := by kernel_rfl
theorem fo_76_1 : fieldOff Try.prog 76 1 = some 1 := by kernel_rfl
theorem fo_76_2 : fieldOff Try.prog 76 2 = some 2 := by kernel_rfl
theorem fo_76_3 : fieldOff Try.prog 76 3 = some 3 := by kernel_rfl
theorem fo_76_4 : fieldOff Try.prog 76 4 = some 4 := by kernel_rfl
theorem gf_108 : goFn Try.prog 108 = true := by kernel_rfl
theorem gf_109 : goFn Try.prog 109 = true := by kernel_rfl
theorem gf_110 : goFn Try.prog 110 = true := by kernel_rfl
theorem gf_116 : goFn Try.prog 116 = true := by kernel_rfl
theorem gf_91 : goFn Try.prog 91 = true := by kernel_rfl
theorem gf_92 : goFn Try.prog 92 = true := by kernel_rfl
theorem gf_93 : goFn Try.prog 93 = true := by kernel_rfl
theorem gf_94 : goFn Try.prog 94 = true := by kernel_rfl
theorem gf_95 : goFn Try.prog 95 = true := by kernel_rfl
theorem mk_69 : mkTy Try.prog 69 = some (76, 5, 40, some (.agg #[.int .i64 0, .int .i64 0, .int .i64 0, .int .i64 0, .int .i64 0])) := by kernel_rfl
theorem rt_115 : rowTy Try.prog 115 = some 5 := by kernel_rfl
theorem rt_76 : rowTy Try.prog 76 = some 5 := by kernel_rfl
theorem zt_76 : zeroTy Try.prog 76 = some (.agg #[.int .i64 0, .int .i64 0, .int .i64 0, .int .i64 0, .int .i64 0]) := by kernel_rfl
theorem CallOk_c (c : Cl) (w : World) : CallsR Try.prog 116 #[.agg #[.int .i64 c.kind, .int .i64 c.run, .int .i64 c.a, .int .i64 c.b, .int .i64 c.n]] w (fun v w' => v = .bool (callOk c) ∧ w.grownBy w' none) := by
 refine calls_of_wpf (n := 26) Try.func116 rfl Try.ntmps116 rfl ?_
 have hb0 := World.grownBy.refl w none
 refine wpf_seq_region ?_
 refine wpo_box (v := .agg #[.int .i64 c.kind, .int .i64 c.run, .int .i64 c.a, .int .i64 c.b, .int .i64 c.n]) (cs := #[.int .i64 c.kind, .int .i64 c.run, .int .i64 c.a, .int .i64 c.b, .int .i64 c.n]) rfl rfl rfl ?_
 intro B8523 w8524 hN8525
 have hlB8523 := hN_ge hN8525 hb0
 have hb8526 := low0 hb0 hN8525.grw
 refine wpo_assign (v := .bool false) rfl rfl ?_
 refine wpo_nil ?_
 refine wpf_seq_region_mid (fun f' w' => (f' 2 = .bool ((((inR c.kind 1 9 && inR c.run 1 8) && inR c.a 0 3) && inR c.b 0 3) && inR c.n 0 99)) ∧ w8524.grownBy w' none) ?_ ?_
 ·
  refine wpo_fieldAddr (o' := 0) fo_76_0 rfl rfl rfl ?_
  refine wpo_load1 (v := .int .i64 c.kind) ot_3 rfl (hN8525.blk.cell rfl) rfl ?_
  refine wpo_call (vs := [.int .i64 c.kind, .int .i64 1, .int .i64 9]) gf_69 (args_cons rfl (args_cons rfl (args_cons rfl args_nil))) rfl (inRange_c c.kind 1 9 _) ?_
  rintro _ w8549 ⟨rfl, hg8550⟩
  have hb8551 := low0 hb8526 hg8550
  refine wpo_move (v := .bool (inR c.kind 1 9)) rfl rfl ?_
  rcases bcases (inR c.kind 1 9) with h8552 | h8552
  ·
   have hr8553 := inR_iff.1 h8552
   refine wpo_run rfl rfl rfl h8552 ?_
   refine wpo_fieldAddr (o' := 1) fo_76_1 rfl rfl rfl ?_
   refine wpo_run rfl rfl rfl h8552 ?_
   have k8554 := (hN8525.blk.grown0 hg8550)
   refine wpo_load1 (v := .int .i64 c.run) ot_3 rfl (k8554.cell rfl) rfl ?_
   refine wpo_run rfl rfl rfl h8552 ?_
   refine wpo_call (vs := [.int .i64 c.run, .int .i64 1, .int .i64 8]) gf_69 (args_cons rfl (args_cons rfl (args_cons rfl args_nil))) rfl (inRange_c c.run 1 8 _) ?_
   rintro _ w8555 ⟨rfl, hg8556⟩
   have hb8557 := low0 hb8551 hg8556
   refine wpo_pickt (v := .bool (inR c.run 1 8)) rfl h8552 rfl rfl ?_
   refine wpo_move (v := .bool (inR c.run 1 8)) rfl rfl ?_
   rcases bcases (inR c.run 1 8) with h8558 | h8558
   ·
    have hr8559 := inR_iff.1 h8558
    refine wpo_run rfl rfl rfl h8558 ?_
    refine wpo_fieldAddr (o' := 2) fo_76_2 rfl rfl rfl ?_
    refine wpo_run rfl rfl rfl h8558 ?_
    have k8560 := (k8554.grown0 hg8556)
    refine wpo_load1 (v := .int .i64 c.a) ot_3 rfl (k8560.cell rfl) rfl ?_
    refine wpo_run rfl rfl rfl h8558 ?_
    refine wpo_call (vs := [.int .i64 c.a, .int .i64 0, .int .i64 3]) gf_69 (args_cons rfl (args_cons rfl (args_cons rfl args_nil))) rfl (inRange_c c.a 0 3 _) ?_
    rintro _ w8561 ⟨rfl, hg8562⟩
    have hb8563 := low0 hb8557 hg8562
    refine wpo_pickt (v := .bool (inR c.a 0 3)) rfl h8558 rfl rfl ?_
    refine wpo_move (v := .bool (inR c.a 0 3)) rfl rfl ?_
    rcases bcases (inR c.a 0 3) with h8564 | h8564
    ·
     have hr8565 := inR_iff.1 h8564
     refine wpo_run rfl rfl rfl h8564 ?_
     refine wpo_fieldAddr (o' := 3) fo_76_3 rfl rfl rfl ?_
     refine wpo_run rfl rfl rfl h8564 ?_
     have k8566 := (k8560.grown0 hg8562)
     refine wpo_load1 (v := .int .i64 c.b) ot_3 rfl (k8566.cell rfl) rfl ?_
     refine wpo_run rfl rfl rfl h8564 ?_
     refine wpo_call (vs := [.int .i64 c.b, .int .i64 0, .int .i64 3]) gf_69 (args_cons rfl (args_cons rfl (args_cons rfl args_nil))) rfl (inRange_c c.b 0 3 _) ?_
     rintro _ w8567 ⟨rfl, hg8568⟩
     have hb8569 := low0 hb8563 hg8568
     refine wpo_pickt (v := .bool (inR c.b 0 3)) rfl h8564 rfl rfl ?_
     refine wpo_move (v := .bool (inR c.b 0 3)) rfl rfl ?_
     rcases bcases (inR c.b 0 3) with h8570 | h8570
     ·
      have hr8571 := inR_iff.1 h8570
      refine wpo_run rfl rfl rfl h8570 ?_
      refine wpo_fieldAddr (o' := 4) fo_76_4 rfl rfl rfl ?_
      refine wpo_run rfl rfl rfl h8570 ?_
      have k8572 := (k8566.grown0 hg8568)
      refine wpo_load1 (v := .int .i64 c.n) ot_3 rfl (k8572.cell rfl) rfl ?_
      refine wpo_run rfl rfl rfl h8570 ?_
      refine wpo_call (vs := [.int .i64 c.n, .int .i64 0, .int .i64 99]) gf_69 (args_cons rfl (args_cons rfl (args_cons rfl args_nil))) rfl (inRange_c c.n 0 99 _) ?_
      rintro _ w8573 ⟨rfl, hg8574⟩
      have hb8575 := low0 hb8569 hg8574
      refine wpo_pickt (v := .bool (inR c.n 0 99)) rfl h8570 rfl rfl ?_
      refine wpo_assign (v := .bool (inR c.n 0 99)) rfl rfl ?_
      exact wpo_nil ⟨(congrArg Value.bool (by first | (simp only [h8552, h8558, h8564, h8570, b0, b1, b2, b3, b4, b5, b6, b7, b8, b9]; done) | simp [h8552, h8558, h8564, h8570])), (grown_trans (grown_trans (grown_trans (grown_trans hg8550 hg8556) hg8562) hg8568) hg8574)⟩
     ·
      iterate 3 refine wpo_pass rfl rfl rfl h8570 rfl ?_
      refine wpo_pickf (v := .bool false) rfl h8570 rfl rfl ?_
      refine wpo_assign (v := .bool false) rfl rfl ?_
      exact wpo_nil ⟨(congrArg Value.bool (by first | (simp only [h8552, h8558, h8564, h8570, b0, b1, b2, b3, b4, b5, b6, b7, b8, b9]; done) | simp [h8552, h8558, h8564, h8570])), (grown_trans (grown_trans (grown_trans hg8550 hg8556) hg8562) hg8568)⟩
    ·
     iterate 3 refine wpo_pass rfl rfl rfl h8564 rfl ?_
     refine wpo_pickf (v := .bool false) rfl h8564 rfl rfl ?_
     refine wpo_move (v := .bool false) rfl rfl ?_
     iterate 3 refine wpo_pass rfl rfl rfl rfl rfl ?_
     refine wpo_pickf (v := .bool false) rfl rfl rfl rfl ?_
     refine wpo_assign (v := .bool false) rfl rfl ?_
     exact wpo_nil ⟨(congrArg Value.bool (by first | (simp only [h8552, h8558, h8564, b0, b1, b2, b3, b4, b5, b6, b7, b8, b9]; done) | simp [h8552, h8558, h8564])), (grown_trans (grown_trans hg8550 hg8556) hg8562)⟩
   ·
    iterate 3 refine wpo_pass rfl rfl rfl h8558 rfl ?_
    refine wpo_pickf (v := .bool false) rfl h8558 rfl rfl ?_
    refine wpo_move (v := .bool false) rfl rfl ?_
    iterate 3 refine wpo_pass rfl rfl rfl rfl rfl ?_
    refine wpo_pickf (v := .bool false) rfl rfl rfl rfl ?_
    refine wpo_move (v := .bool false) rfl rfl ?_
    iterate 3 refine wpo_pass rfl rfl rfl rfl rfl ?_
    refine wpo_pickf (v := .bool false) rfl rfl rfl rfl ?_
    refine wpo_assign (v := .bool false) rfl rfl ?_
    exact wpo_nil ⟨(congrArg Value.bool (by first | (simp only [h8552, h8558, b0, b1, b2, b3, b4, b5, b6, b7, b8, b9]; done) | simp [h8552, h8558])), (grown_trans hg8550 hg8556)⟩
  ·
   iterate 3 refine wpo_pass rfl rfl rfl h8552 rfl ?_
   refine wpo_pickf (v := .bool false) rfl h8552 rfl rfl ?_
   refine wpo_move (v := .bool false) rfl rfl ?_
   iterate 3 refine wpo_pass rfl rfl rfl rfl rfl ?_
   refine wpo_pickf (v := .bool false) rfl rfl rfl rfl ?_
   refine wpo_move (v := .bool false) rfl rfl ?_
   iterate 3 refine wpo_pass rfl rfl rfl rfl rfl ?_
   refine wpo_pickf (v := .bool false) rfl rfl rfl rfl ?_
   refine wpo_move (v := .bool false) rfl rfl ?_
   iterate 3 refine wpo_pass rfl rfl rfl rfl rfl ?_
   refine wpo_pickf (v := .bool false) rfl rfl rfl rfl ?_
   refine wpo_assign (v := .bool false) rfl rfl ?_
   exact wpo_nil ⟨(congrArg Value.bool (by first | (simp only [h8552, b0, b1, b2, b3, b4, b5, b6, b7, b8, b9]; done) | simp [h8552])), hg8550⟩
 ·
  rintro f8576 w8577 ⟨e8578, hg8579⟩
  have hb8580 := low0 hb8526 hg8579
  refine wpf_ret ?_
  refine ⟨.bool ((((inR c.kind 1 9 && inR c.run 1 8) && inR c.a 0 3) && inR c.b 0 3) && inR c.n 0 99), res1 rfl e8578, ?_, hb8580⟩
  rfl

theorem sCallOk_c (c : Cl) (w : World) : CallsR Try.prog 108 #[.agg #[.int .i64 c.kind, .int .i64 c.run, .int .i64 c.a, .int .i64 c.b, .int .i64 c.n]] w (fun v w' => v = .bool (callOk c) ∧ w.grownBy w' none) := by
 refine calls_of_wpf (n := 26) Try.func108 rfl Try.ntmps108 rfl ?_
 have hb0 := World.grownBy.refl w none
 refine wpf_seq_region ?_
 refine wpo_box (v := .agg #[.int .i64 c.kind, .int .i64 c.run, .int .i64 c.a, .int .i64 c.b, .int .i64 c.n]) (cs := #[.int .i64 c.kind, .int .i64 c.run, .int .i64 c.a, .int .i64 c.b, .int .i64 c.n]) rfl rfl rfl ?_
 intro B8581 w8582 hN8583
 have hlB8581 := hN_ge hN8583 hb0
 have hb8584 := low0 hb0 hN8583.grw
 refine wpo_assign (v := .bool false) rfl rfl ?_
 refine wpo_nil ?_
 refine wpf_seq_region_mid (fun f' w' => (f' 2 = .bool ((((inR c.kind 1 9 && inR c.run 1 8) && inR c.a 0 3) && inR c.b 0 3) && inR c.n 0 99)) ∧ w8582.grownBy w' none) ?_ ?_
 ·
  refine wpo_fieldAddr (o' := 0) fo_76_0 rfl rfl rfl ?_
  refine wpo_load1 (v := .int .i64 c.kind) ot_3 rfl (hN8583.blk.cell rfl) rfl ?_
  refine wpo_call (vs := [.int .i64 c.kind, .int .i64 1, .int .i64 9]) gf_85 (args_cons rfl (args_cons rfl (args_cons rfl args_nil))) rfl (l6In_c c.kind 1 9 _) ?_
  rintro _ w8607 ⟨rfl, hg8608⟩
  have hb8609 := low0 hb8584 hg8608
  refine wpo_move (v := .bool (inR c.kind 1 9)) rfl rfl ?_
  rcases bcases (inR c.kind 1 9) with h8610 | h8610
  ·
   have hr8611 := inR_iff.1 h8610
   refine wpo_run rfl rfl rfl h8610 ?_
   refine wpo_fieldAddr (o' := 1) fo_76_1 rfl rfl rfl ?_
   refine wpo_run rfl rfl rfl h8610 ?_
   have k8612 := (hN8583.blk.grown0 hg8608)
   refine wpo_load1 (v := .int .i64 c.run) ot_3 rfl (k8612.cell rfl) rfl ?_
   refine wpo_run rfl rfl rfl h8610 ?_
   refine wpo_call (vs := [.int .i64 c.run, .int .i64 1, .int .i64 8]) gf_85 (args_cons rfl (args_cons rfl (args_cons rfl args_nil))) rfl (l6In_c c.run 1 8 _) ?_
   rintro _ w8613 ⟨rfl, hg8614⟩
   have hb8615 := low0 hb8609 hg8614
   refine wpo_pickt (v := .bool (inR c.run 1 8)) rfl h8610 rfl rfl ?_
   refine wpo_move (v := .bool (inR c.run 1 8)) rfl rfl ?_
   rcases bcases (inR c.run 1 8) with h8616 | h8616
   ·
    have hr8617 := inR_iff.1 h8616
    refine wpo_run rfl rfl rfl h8616 ?_
    refine wpo_fieldAddr (o' := 2) fo_76_2 rfl rfl rfl ?_
    refine wpo_run rfl rfl rfl h8616 ?_
    have k8618 := (k8612.grown0 hg8614)
    refine wpo_load1 (v := .int .i64 c.a) ot_3 rfl (k8618.cell rfl) rfl ?_
    refine wpo_run rfl rfl rfl h8616 ?_
    refine wpo_call (vs := [.int .i64 c.a, .int .i64 0, .int .i64 3]) gf_85 (args_cons rfl (args_cons rfl (args_cons rfl args_nil))) rfl (l6In_c c.a 0 3 _) ?_
    rintro _ w8619 ⟨rfl, hg8620⟩
    have hb8621 := low0 hb8615 hg8620
    refine wpo_pickt (v := .bool (inR c.a 0 3)) rfl h8616 rfl rfl ?_
    refine wpo_move (v := .bool (inR c.a 0 3)) rfl rfl ?_
    rcases bcases (inR c.a 0 3) with h8622 | h8622
    ·
     have hr8623 := inR_iff.1 h8622
     refine wpo_run rfl rfl rfl h8622 ?_
     refine wpo_fieldAddr (o' := 3) fo_76_3 rfl rfl rfl ?_
     refine wpo_run rfl rfl rfl h8622 ?_
     have k8624 := (k8618.grown0 hg8620)
     refine wpo_load1 (v := .int .i64 c.b) ot_3 rfl (k8624.cell rfl) rfl ?_
     refine wpo_run rfl rfl rfl h8622 ?_
     refine wpo_call (vs := [.int .i64 c.b, .int .i64 0, .int .i64 3]) gf_85 (args_cons rfl (args_cons rfl (args_cons rfl args_nil))) rfl (l6In_c c.b 0 3 _) ?_
     rintro _ w8625 ⟨rfl, hg8626⟩
     have hb8627 := low0 hb8621 hg8626
     refine wpo_pickt (v := .bool (inR c.b 0 3)) rfl h8622 rfl rfl ?_
     refine wpo_move (v := .bool (inR c.b 0 3)) rfl rfl ?_
     rcases bcases (inR c.b 0 3) with h8628 | h8628
     ·
      have hr8629 := inR_iff.1 h8628
      refine wpo_run rfl rfl rfl h8628 ?_
      refine wpo_fieldAddr (o' := 4) fo_76_4 rfl rfl rfl ?_
      refine wpo_run rfl rfl rfl h8628 ?_
      have k8630 := (k8624.grown0 hg8626)
      refine wpo_load1 (v := .int .i64 c.n) ot_3 rfl (k8630.cell rfl) rfl ?_
      refine wpo_run rfl rfl rfl h8628 ?_
      refine wpo_call (vs := [.int .i64 c.n, .int .i64 0, .int .i64 99]) gf_85 (args_cons rfl (args_cons rfl (args_cons rfl args_nil))) rfl (l6In_c c.n 0 99 _) ?_
      rintro _ w8631 ⟨rfl, hg8632⟩
      have hb8633 := low0 hb8627 hg8632
      refine wpo_pickt (v := .bool (inR c.n 0 99)) rfl h8628 rfl rfl ?_
      refine wpo_assign (v := .bool (inR c.n 0 99)) rfl rfl ?_
      exact wpo_nil ⟨(congrArg Value.bool (by first | (simp only [h8610, h8616, h8622, h8628, b0, b1, b2, b3, b4, b5, b6, b7, b8, b9]; done) | simp [h8610, h8616, h8622, h8628])), (grown_trans (grown_trans (grown_trans (grown_trans hg8608 hg8614) hg8620) hg8626) hg8632)⟩
     ·
      iterate 3 refine wpo_pass rfl rfl rfl h8628 rfl ?_
      refine wpo_pickf (v := .bool false) rfl h8628 rfl rfl ?_
      refine wpo_assign (v := .bool false) rfl rfl ?_
      exact wpo_nil ⟨(congrArg Value.bool (by first | (simp only [h8610, h8616, h8622, h8628, b0, b1, b2, b3, b4, b5, b6, b7, b8, b9]; done) | simp [h8610, h8616, h8622, h8628])), (grown_trans (grown_trans (grown_trans hg8608 hg8614) hg8620) hg8626)⟩
    ·
     iterate 3 refine wpo_pass rfl rfl rfl h8622 rfl ?_
     refine wpo_pickf (v := .bool false) rfl h8622 rfl rfl ?_
     refine wpo_move (v := .bool false) rfl rfl ?_
     iterate 3 refine wpo_pass rfl rfl rfl rfl rfl ?_
     refine wpo_pickf (v := .bool false) rfl rfl rfl rfl ?_
     refine wpo_assign (v := .bool false) rfl rfl ?_
     exact wpo_nil ⟨(congrArg Value.bool (by first | (simp only [h8610, h8616, h8622, b0, b1, b2, b3, b4, b5, b6, b7, b8, b9]; done) | simp [h8610, h8616, h8622])), (grown_trans (grown_trans hg8608 hg8614) hg8620)⟩
   ·
    iterate 3 refine wpo_pass rfl rfl rfl h8616 rfl ?_
    refine wpo_pickf (v := .bool false) rfl h8616 rfl rfl ?_
    refine wpo_move (v := .bool false) rfl rfl ?_
    iterate 3 refine wpo_pass rfl rfl rfl rfl rfl ?_
    refine wpo_pickf (v := .bool false) rfl rfl rfl rfl ?_
    refine wpo_move (v := .bool false) rfl rfl ?_
    iterate 3 refine wpo_pass rfl rfl rfl rfl rfl ?_
    refine wpo_pickf (v := .bool false) rfl rfl rfl rfl ?_
    refine wpo_assign (v := .bool false) rfl rfl ?_
    exact wpo_nil ⟨(congrArg Value.bool (by first | (simp only [h8610, h8616, b0, b1, b2, b3, b4, b5, b6, b7, b8, b9]; done) | simp [h8610, h8616])), (grown_trans hg8608 hg8614)⟩
  ·
   iterate 3 refine wpo_pass rfl rfl rfl h8610 rfl ?_
   refine wpo_pickf (v := .bool false) rfl h8610 rfl rfl ?_
   refine wpo_move (v := .bool false) rfl rfl ?_
   iterate 3 refine wpo_pass rfl rfl rfl rfl rfl ?_
   refine wpo_pickf (v := .bool false) rfl rfl rfl rfl ?_
   refine wpo_move (v := .bool false) rfl rfl ?_
   iterate 3 refine wpo_pass rfl rfl rfl rfl rfl ?_
   refine wpo_pickf (v := .bool false) rfl rfl rfl rfl ?_
   refine wpo_move (v := .bool false) rfl rfl ?_
   iterate 3 refine wpo_pass rfl rfl rfl rfl rfl ?_
   refine wpo_pickf (v := .bool false) rfl rfl rfl rfl ?_
   refine wpo_assign (v := .bool false) rfl rfl ?_
   exact wpo_nil ⟨(congrArg Value.bool (by first | (simp only [h8610, b0, b1, b2, b3, b4, b5, b6, b7, b8, b9]; done) | simp [h8610])), hg8608⟩
 ·
  rintro f8634 w8635 ⟨e8636, hg8637⟩
  have hb8638 := low0 hb8584 hg8637
  refine wpf_ret ?_
  refine ⟨.bool ((((inR c.kind 1 9 && inR c.run 1 8) && inR c.a 0 3) && inR c.b 0 3) && inR c.n 0 99), res1 rfl e8636, ?_, hb8638⟩
  rfl

theorem l11Run_c (k : Int) (hk : -9223372036854775807 ≤ k) (w : World) (ms : List MTh) (a : Option Addr) (c : Nat) (ht : TabAt w a ms) (hlen : TabLen ms) (hn : ms.length ≤ 1048576) : CallsR Try.prog 109 #[.slice a ms.length c, .int .i64 k] w (fun v w' => v = .bool (kindAt (tabT ms) k 3) ∧ w.grownBy w' none) := by
 refine calls_of_wpf (n := 18) Try.func109 rfl Try.ntmps109 rfl ?_
 have hb0 := World.grownBy.refl w none
 refine wpf_seq_region ?_
 refine wpo_assign (v := .bool false) rfl rfl ?_
 refine wpo_nil ?_
 refine wpf_seq_region_mid (fun f' w' => (f' 4 = .bool (inR k 1 (ms.length : Int) && (decide ((mAt ms ((k - 1).toNat)).t.kind = 3)))) ∧ w.grownBy w' none) ?_ ?_
 ·
  refine wpo_move (v := .int .i64 k) rfl rfl ?_
  refine wpo_move (v := .slice a ms.length c) rfl rfl ?_
  refine wpo_len (by kernel_rfl) rfl rfl ?_
  refine wpo_call (vs := [.int .i64 k, .int .i64 1, .int .i64 (ms.length : Int)]) gf_85 (args_cons rfl (args_cons rfl (args_cons rfl args_nil))) rfl (l6In_c k 1 (ms.length : Int) _) ?_
  rintro _ w8654 ⟨rfl, hg8655⟩
  have hb8656 := low0 hb0 hg8655
  refine wpo_move (v := .bool (inR k 1 (ms.length : Int))) rfl rfl ?_
  rcases bcases (inR k 1 (ms.length : Int)) with h8657 | h8657
  ·
   have hr8658 := inR_iff.1 h8657
   refine wpo_run rfl rfl rfl h8657 ?_
   refine wpo_move (v := .slice a ms.length c) rfl rfl ?_
   refine wpo_run rfl rfl rfl h8657 ?_
   refine wpo_move (v := .int .i64 k) rfl rfl ?_
   refine wpo_run rfl rfl rfl h8657 ?_
   refine wpo_sub (c := k - 1) rfl rfl (by omega) (by omega) (by omega) rfl ?_
   refine wpo_run rfl rfl rfl h8657 ?_
   obtain ⟨b8661, q8662, o8663, ha8664, ho8665, hr8666⟩ := SlAt.at (TabAt.low ht hb8656).1 (map_get (mAt_get (show (k - 1).toNat < ms.length by omega)))
   have hle8667 := TabLen.at hlen (mAt_get (show (k - 1).toNat < ms.length by omega))
   refine wpo_indexE es_54 rfl rfl ha8664 ho8665 (by omega) (by omega) rfl ?_
   refine wpo_run rfl rfl rfl h8657 ?_
   refine wpo_fieldAddr (o' := o8663) fo_45_0 rfl rfl rfl ?_
   refine wpo_run rfl rfl rfl h8657 ?_
   refine wpo_load1 (v := .int .i64 ((mAt ms ((k - 1).toNat)).t.kind)) ot_3 rfl (hr8666 0 _ rfl) rfl ?_
   refine wpo_run rfl rfl rfl h8657 ?_
   refine wpo_eql (q := decide ((mAt ms ((k - 1).toNat)).t.kind = 3)) rfl rfl rfl rfl ?_
   refine wpo_pickt (v := .bool (decide ((mAt ms ((k - 1).toNat)).t.kind = 3))) rfl h8657 rfl rfl ?_
   refine wpo_assign (v := .bool (decide ((mAt ms ((k - 1).toNat)).t.kind = 3))) rfl rfl ?_
   exact wpo_nil ⟨(congrArg Value.bool (by first | (simp only [h8657, b0, b1, b2, b3, b4, b5, b6, b7, b8, b9]; done) | simp [h8657])), hg8655⟩
  ·
   iterate 7 refine wpo_pass rfl rfl rfl h8657 rfl ?_
   refine wpo_pickf (v := .bool false) rfl h8657 rfl rfl ?_
   refine wpo_assign (v := .bool false) rfl rfl ?_
   exact wpo_nil ⟨(congrArg Value.bool (by first | (simp only [h8657, b0, b1, b2, b3, b4, b5, b6, b7, b8, b9]; done) | simp [h8657])), hg8655⟩
 ·
  rintro f8668 w8669 ⟨e8670, hg8671⟩
  have hb8672 := low0 hb0 hg8671
  refine wpf_ret ?_
  refine ⟨.bool (inR k 1 (ms.length : Int) && (decide ((mAt ms ((k - 1).toNat)).t.kind = 3))), res1 rfl e8670, ?_, hb8672⟩
  exact congrArg Value.bool kindAt_m

theorem callPoss_c (q : Cl) (w : World) (ms : List MTh) (a : Option Addr) (c : Nat) (ht : TabAt w a ms) (hlen : TabLen ms) (hn : ms.length ≤ 1048576) : CallsR Try.prog 110 #[.slice a ms.length c, .agg #[.int .i64 q.kind, .int .i64 q.run, .int .i64 q.a, .int .i64 q.b, .int .i64 q.n]] w (fun v w' => v = .bool (callPoss (tabT ms) q) ∧ w.grownBy w' none) := by
 refine calls_of_wpf (n := 17) Try.func110 rfl Try.ntmps110 rfl ?_
 have hb0 := World.grownBy.refl w none
 refine wpf_seq_region ?_
 refine wpo_box (v := .agg #[.int .i64 q.kind, .int .i64 q.run, .int .i64 q.a, .int .i64 q.b, .int .i64 q.n]) (cs := #[.int .i64 q.kind, .int .i64 q.run, .int .i64 q.a, .int .i64 q.b, .int .i64 q.n]) rfl rfl rfl ?_
 intro B8673 w8674 hN8675
 have hlB8673 := hN_ge hN8675 hb0
 have hb8676 := low0 hb0 hN8675.grw
 refine wpo_assign (v := .bool false) rfl rfl ?_
 refine wpo_nil ?_
 refine wpf_seq_region_mid (fun f' w' => (f' 4 = .bool ((tableOk (tabT ms) && callOk q) && kindAt (tabT ms) q.run 3)) ∧ w8674.grownBy w' none) ?_ ?_
 ·
  refine wpo_move (v := .slice a ms.length c) rfl rfl ?_
  refine wpo_call (vs := [.slice a ms.length c]) gf_83 (args_cons rfl args_nil) rfl (TableOk_c  _ ms _ _ (TabAt.low ht hb8676) hlen (by omega)) ?_
  rintro _ w8691 ⟨rfl, hg8692⟩
  have hb8693 := low0 hb8676 hg8692
  refine wpo_move (v := .bool (tableOk (tabT ms))) rfl rfl ?_
  rcases bcases (tableOk (tabT ms)) with h8694 | h8694
  ·
   refine wpo_run rfl rfl rfl h8694 ?_
   have k8695 := (hN8675.blk.grown0 hg8692)
   refine wpo_loadn (vs := [.int .i64 q.kind, .int .i64 q.run, .int .i64 q.a, .int .i64 q.b, .int .i64 q.n]) rt_76 rfl rfl (k8695.rangeL 0 5 rfl) rfl ?_
   refine wpo_run rfl rfl rfl h8694 ?_
   refine wpo_call (vs := [.agg #[.int .i64 q.kind, .int .i64 q.run, .int .i64 q.a, .int .i64 q.b, .int .i64 q.n]]) gf_116 (args_cons rfl args_nil) rfl (CallOk_c q _) ?_
   rintro _ w8696 ⟨rfl, hg8697⟩
   have hb8698 := low0 hb8693 hg8697
   refine wpo_pickt (v := .bool (callOk q)) rfl h8694 rfl rfl ?_
   refine wpo_move (v := .bool (callOk q)) rfl rfl ?_
   rcases bcases (callOk q) with h8699 | h8699
   ·
    have hco8700 := callOk_iff h8699
    refine wpo_run rfl rfl rfl h8699 ?_
    refine wpo_move (v := .slice a ms.length c) rfl rfl ?_
    refine wpo_run rfl rfl rfl h8699 ?_
    refine wpo_fieldAddr (o' := 1) fo_76_1 rfl rfl rfl ?_
    refine wpo_run rfl rfl rfl h8699 ?_
    have k8701 := (k8695.grown0 hg8697)
    refine wpo_load1 (v := .int .i64 q.run) ot_3 rfl (k8701.cell rfl) rfl ?_
    refine wpo_run rfl rfl rfl h8699 ?_
    refine wpo_call (vs := [.slice a ms.length c, .int .i64 q.run, .int .i64 3]) gf_103 (args_cons rfl (args_cons rfl (args_cons rfl args_nil))) rfl (kindAt_c q.run 3 (by omega) _ ms _ _ (TabAt.low ht hb8698) hlen (by omega)) ?_
    rintro _ w8702 ⟨rfl, hg8703⟩
    have hb8704 := low0 hb8698 hg8703
    refine wpo_pickt (v := .bool (kindAt (tabT ms) q.run 3)) rfl h8699 rfl rfl ?_
    refine wpo_assign (v := .bool (kindAt (tabT ms) q.run 3)) rfl rfl ?_
    exact wpo_nil ⟨(congrArg Value.bool (by first | (simp only [h8694, h8699, b0, b1, b2, b3, b4, b5, b6, b7, b8, b9]; done) | simp [h8694, h8699])), (grown_trans (grown_trans hg8692 hg8697) hg8703)⟩
   ·
    iterate 4 refine wpo_pass rfl rfl rfl h8699 rfl ?_
    refine wpo_pickf (v := .bool false) rfl h8699 rfl rfl ?_
    refine wpo_assign (v := .bool false) rfl rfl ?_
    exact wpo_nil ⟨(congrArg Value.bool (by first | (simp only [h8694, h8699, b0, b1, b2, b3, b4, b5, b6, b7, b8, b9]; done) | simp [h8694, h8699])), (grown_trans hg8692 hg8697)⟩
  ·
   refine wpo_pass rfl rfl rfl h8694 rfl ?_
   refine wpo_pass rfl rfl rfl h8694 rfl ?_
   refine wpo_pickf (v := .bool false) rfl h8694 rfl rfl ?_
   refine wpo_move (v := .bool false) rfl rfl ?_
   iterate 4 refine wpo_pass rfl rfl rfl rfl rfl ?_
   refine wpo_pickf (v := .bool false) rfl rfl rfl rfl ?_
   refine wpo_assign (v := .bool false) rfl rfl ?_
   exact wpo_nil ⟨(congrArg Value.bool (by first | (simp only [h8694, b0, b1, b2, b3, b4, b5, b6, b7, b8, b9]; done) | simp [h8694])), hg8692⟩
 ·
  rintro f8705 w8706 ⟨e8707, hg8708⟩
  have hb8709 := low0 hb8676 hg8708
  refine wpf_ret ?_
  refine ⟨.bool ((tableOk (tabT ms) && callOk q) && kindAt (tabT ms) q.run 3), res1 rfl e8707, ?_, hb8709⟩
  rfl

theorem l21Calls_c (w : World) (ms : List MTh) (a : Option Addr) (c : Nat) (ht : TabAt w a ms) (hlen : TabLen ms) (hn : ms.length ≤ 1048576) (cs : List Cl) (b : Option Addr) (e : Nat) (hs : SlAt w b 5 (cs.map Cl.cells)) (hm : cs.length ≤ 1048576) : CallsR Try.prog 91 #[.slice a ms.length c, .slice b cs.length e] w (fun v w' => v = .bool (callsIn_ (tabT ms) cs) ∧ w.grownBy w' none) := by
 refine calls_of_wpf (n := 31) Try.func91 rfl Try.ntmps91 rfl ?_
 have hb0 := World.grownBy.refl w none
 refine wpf_seq_region ?_
 refine wpo_assign (v := .bool false) rfl rfl ?_
 refine wpo_nil ?_
 refine wpf_seq ?_
 refine wpf_seq_region ?_
 refine wpo_assign (v := .int .i64 0) rfl rfl ?_
 refine wpo_nil ?_
 refine wpf_block ?_
 refine wpf_loopN (fun mm f' w' => ∃ (k : Nat), mm = cs.length - k ∧ k ≤ cs.length ∧ ((cs.take k).all (callIn (tabT ms))) = true ∧ f' 5 = .int .i64 (k : Int) ∧ f' 0 = .slice a ms.length c ∧ f' 1 = .slice b cs.length e ∧ w.grownBy w' none) (cs.length - 0) ⟨0, rfl, (Nat.zero_le _), rfl, rfl, rfl, rfl, hb0⟩ ?_
 rintro mm f8710 w8711 ⟨k, hm8713, hk, hall, e8714, e8715, e8716, hb8712⟩
 refine wpf_seq ?_
 refine wpf_seq_region ?_
 refine wpo_move (v := .int .i64 (k : Int)) e8714 rfl ?_
 refine wpo_move (v := .slice b cs.length e) e8716 rfl ?_
 refine wpo_len (by kernel_rfl) rfl rfl ?_
 refine wpo_lss (q := decide ((k : Int) < (cs.length : Int))) rfl rfl rfl rfl ?_
 refine wpo_nil ?_
 refine wpf_cond rfl (fun h8717 => ?_) (fun h8717 => ?_)
 ·
  have h8718 := of_decide_eq_true h8717
  refine wpf_skip ?_
  refine thn_n ?_
  refine wpf_seq ?_
  refine wpf_block ?_
  refine wpf_seq_region_mid (fun f' w' => (f' 0 = .slice a ms.length c ∧ f' 1 = .slice b cs.length e ∧ f' 5 = .int .i64 (k : Int) ∧ f' 27 = .bool ((!callOk (cAt cs k)) || (!kindAt (tabT ms) ((cAt cs k).run) 3))) ∧ w8711.grownBy w' none) ?_ ?_
  ·
   refine wpo_move (v := .slice b cs.length e) e8716 rfl ?_
   refine wpo_move (v := .int .i64 (k : Int)) e8714 rfl ?_
   obtain ⟨b8746, q8747, o8748, ha8749, ho8750, hr8751⟩ := SlAt.at (SlAt.low hs hb8712) (map_get (cAt_get (show k < cs.length by omega)))
   refine wpo_indexE es_69 rfl rfl ha8749 ho8750 (by omega) (by omega) rfl ?_
   refine wpo_loadn (vs := [.int .i64 ((cAt cs k).kind), .int .i64 ((cAt cs k).run), .int .i64 ((cAt cs k).a), .int .i64 ((cAt cs k).b), .int .i64 ((cAt cs k).n)]) rt_76 rfl rfl (range_sub hr8751 0 5 rfl) rfl ?_
   refine wpo_call (vs := [.agg #[.int .i64 ((cAt cs k).kind), .int .i64 ((cAt cs k).run), .int .i64 ((cAt cs k).a), .int .i64 ((cAt cs k).b), .int .i64 ((cAt cs k).n)]]) gf_108 (args_cons rfl args_nil) rfl (sCallOk_c (cAt cs k) _) ?_
   rintro _ w8752 ⟨rfl, hg8753⟩
   have hb8754 := low0 hb8712 hg8753
   refine wpo_not (b' := !callOk (cAt cs k)) rfl rfl rfl ?_
   refine wpo_move (v := .bool (!callOk (cAt cs k))) rfl rfl ?_
   rcases bcases (!callOk (cAt cs k)) with h8755 | h8755
   ·
    have h8756 := nt_t h8755
    iterate 8 refine wpo_pass rfl rfl rfl h8755 rfl ?_
    refine wpo_pickt (v := .bool true) rfl h8755 rfl rfl ?_
    exact wpo_nil ⟨⟨e8715, e8716, e8714, (congrArg Value.bool (by first | (simp only [h8717, h8755, h8756, b0, b1, b2, b3, b4, b5, b6, b7, b8, b9]; done) | simp [h8717, h8755, h8756]))⟩, hg8753⟩
   ·
    have h8757 := nt_f h8755
    have hco8758 := callOk_iff h8757
    refine wpo_run rfl rfl rfl h8755 ?_
    refine wpo_move (v := .slice a ms.length c) e8715 rfl ?_
    refine wpo_run rfl rfl rfl h8755 ?_
    refine wpo_move (v := .slice b cs.length e) e8716 rfl ?_
    refine wpo_run rfl rfl rfl h8755 ?_
    refine wpo_move (v := .int .i64 (k : Int)) e8714 rfl ?_
    refine wpo_run rfl rfl rfl h8755 ?_
    refine wpo_indexE es_69 rfl rfl ha8749 ho8750 (by omega) (by omega) rfl ?_
    refine wpo_run rfl rfl rfl h8755 ?_
    refine wpo_fieldAddr (o' := o8748 + 1) fo_76_1 rfl rfl rfl ?_
    refine wpo_run rfl rfl rfl h8755 ?_
    refine wpo_load1 (v := .int .i64 ((cAt cs k).run)) ot_3 rfl ((range_low hr8751 hg8753) 1 _ rfl) rfl ?_
    refine wpo_run rfl rfl rfl h8755 ?_
    refine wpo_call (vs := [.slice a ms.length c, .int .i64 ((cAt cs k).run)]) gf_109 (args_cons rfl (args_cons rfl args_nil)) rfl (l11Run_c ((cAt cs k).run) (by omega) _ ms _ _ (TabAt.low ht hb8754) hlen (by omega)) ?_
    rintro _ w8759 ⟨rfl, hg8760⟩
    have hb8761 := low0 hb8754 hg8760
    refine wpo_run rfl rfl rfl h8755 ?_
    refine wpo_not (b' := !kindAt (tabT ms) ((cAt cs k).run) 3) rfl rfl rfl ?_
    refine wpo_pickf (v := .bool (!kindAt (tabT ms) ((cAt cs k).run) 3)) rfl h8755 rfl rfl ?_
    exact wpo_nil ⟨⟨e8715, e8716, e8714, (congrArg Value.bool (by first | (simp only [h8717, h8755, h8757, b0, b1, b2, b3, b4, b5, b6, b7, b8, b9]; done) | simp [h8717, h8755, h8757]))⟩, (grown_trans hg8753 hg8760)⟩
  ·
   rintro f8762 w8763 ⟨⟨e8764, e8765, e8766, e8767⟩, hg8768⟩
   have hb8769 := low0 hb8712 hg8768
   refine wpf_cond e8767 (fun h8770 => ?_) (fun h8770 => ?_)
   ·
    refine wpf_seq_region ?_
    refine wpo_assign (v := .bool false) rfl rfl ?_
    refine wpo_nil ?_
    refine wpf_ret ?_
    refine blk_r ?_
    refine thn_r ?_
    refine thn_r ?_
    refine blk_r ?_
    refine thn_r ?_
    refine ⟨.bool false, res1 rfl rfl, ?_, hb8769⟩
    exact congrArg Value.bool (calls_no (k := k) (cAt_get (by omega)) (nt_t (callIn_s.symm.trans h8770))).symm
   ·
    have h8771 := or_l h8770
    have h8772 := nt_f h8771
    have hco8773 := callOk_iff h8772
    have h8774 := or_r h8770
    have h8775 := nt_f h8774
    refine wpf_skip ?_
    refine blk_n ?_
    refine thn_n ?_
    refine wpf_region ?_
    refine wpo_move (v := .int .i64 (k : Int)) e8766 rfl ?_
    refine wpo_add (c := (k : Int) + 1) rfl rfl (by omega) (by omega) (by omega) rfl ?_
    refine wpo_assign (v := .int .i64 ((k : Int) + 1)) rfl rfl ?_
    refine wpo_nil ?_
    refine thn_n ?_
    exact ⟨cs.length - (k + 1), by omega, (k + 1), rfl, (by omega), (take_all_succ (p := callIn (tabT ms)) hall (cAt_get (by omega)) (nt_f (callIn_s.symm.trans h8770))), rfl, e8764, e8765, hb8769⟩
 ·
  have h8776 := of_decide_eq_false h8717
  refine wpf_exit ?_
  refine thn_e ?_
  refine thn_e ?_
  refine blk_e ?_
  refine thn_n ?_
  refine wpf_seq_region ?_
  refine wpo_move (v := .slice b cs.length e) e8716 rfl ?_
  refine wpo_len (by kernel_rfl) rfl rfl ?_
  refine wpo_leq (q := decide ((cs.length : Int) ≤ 40)) rfl rfl rfl rfl ?_
  refine wpo_assign (v := .bool (decide ((cs.length : Int) ≤ 40))) rfl rfl ?_
  refine wpo_nil ?_
  refine wpf_ret ?_
  refine ⟨.bool (decide ((cs.length : Int) ≤ 40)), res1 rfl rfl, ?_, hb8712⟩
  exact congrArg Value.bool (calls_yes hall (by omega))

theorem scriptOk_c (w : World) (ms : List MTh) (a : Option Addr) (c : Nat) (ht : TabAt w a ms) (hlen : TabLen ms) (hn : ms.length ≤ 1048576) (cs : List Cl) (b : Option Addr) (e : Nat) (hs : SlAt w b 5 (cs.map Cl.cells)) (hm : cs.length ≤ 1048576) : CallsR Try.prog 93 #[.slice a ms.length c, .slice b cs.length e] w (fun v w' => v = .bool (scriptOk (tabT ms) cs) ∧ w.grownBy w' none) := by
 refine calls_of_wpf (n := 26) Try.func93 rfl Try.ntmps93 rfl ?_
 have hb0 := World.grownBy.refl w none
 refine wpf_seq_region ?_
 refine wpo_assign (v := .bool false) rfl rfl ?_
 refine wpo_nil ?_
 refine wpf_seq ?_
 refine wpf_seq_region_mid (fun f' w' => (f' 0 = .slice a ms.length c ∧ f' 1 = .slice b cs.length e ∧ f' 4 = .bool false ∧ f' 14 = .bool ((!tableOk (tabT ms)) || (decide (40 < (cs.length : Int))))) ∧ w.grownBy w' none) ?_ ?_
 ·
  refine wpo_move (v := .slice a ms.length c) rfl rfl ?_
  refine wpo_call (vs := [.slice a ms.length c]) gf_83 (args_cons rfl args_nil) rfl (TableOk_c  _ ms _ _ (TabAt.low ht hb0) hlen (by omega)) ?_
  rintro _ w8783 ⟨rfl, hg8784⟩
  have hb8785 := low0 hb0 hg8784
  refine wpo_not (b' := !tableOk (tabT ms)) rfl rfl rfl ?_
  refine wpo_move (v := .bool (!tableOk (tabT ms))) rfl rfl ?_
  rcases bcases (!tableOk (tabT ms)) with h8786 | h8786
  ·
   have h8787 := nt_t h8786
   iterate 3 refine wpo_pass rfl rfl rfl h8786 rfl ?_
   refine wpo_pickt (v := .bool true) rfl h8786 rfl rfl ?_
   exact wpo_nil ⟨⟨rfl, rfl, rfl, (congrArg Value.bool (by first | (simp only [h8786, h8787, b0, b1, b2, b3, b4, b5, b6, b7, b8, b9]; done) | simp [h8786, h8787]))⟩, hg8784⟩
  ·
   have h8788 := nt_f h8786
   refine wpo_run rfl rfl rfl h8786 ?_
   refine wpo_move (v := .slice b cs.length e) rfl rfl ?_
   refine wpo_run rfl rfl rfl h8786 ?_
   refine wpo_len (by kernel_rfl) rfl rfl ?_
   refine wpo_run rfl rfl rfl h8786 ?_
   refine wpo_gtr (q := decide (40 < (cs.length : Int))) rfl rfl rfl rfl ?_
   refine wpo_pickf (v := .bool (decide (40 < (cs.length : Int)))) rfl h8786 rfl rfl ?_
   exact wpo_nil ⟨⟨rfl, rfl, rfl, (congrArg Value.bool (by first | (simp only [h8786, h8788, b0, b1, b2, b3, b4, b5, b6, b7, b8, b9]; done) | simp [h8786, h8788]))⟩, hg8784⟩
 ·
  rintro f8789 w8790 ⟨⟨e8791, e8792, e8793, e8794⟩, hg8795⟩
  have hb8796 := low0 hb0 hg8795
  refine wpf_cond e8794 (fun h8797 => ?_) (fun h8797 => ?_)
  ·
   refine wpf_seq_region ?_
   refine wpo_assign (v := .bool false) rfl rfl ?_
   refine wpo_nil ?_
   refine wpf_ret ?_
   refine thn_r ?_
   refine ⟨.bool false, res1 rfl rfl, ?_, hb8796⟩
   exact congrArg Value.bool (script_no1 h8797).symm
  ·
   have h8798 := or_l h8797
   have h8799 := nt_f h8798
   have h8800 := or_r h8797
   have h8801 := of_decide_eq_false h8800
   refine wpf_skip ?_
   refine thn_n ?_
   refine wpf_seq ?_
   refine wpf_seq_region ?_
   refine wpo_move (v := .slice b cs.length e) e8792 rfl ?_
   refine wpo_len (by kernel_rfl) rfl rfl ?_
   refine wpo_move (v := .int .i64 0) rfl rfl ?_
   refine wpo_nil ?_
   refine wpf_block ?_
   refine wpf_loopN (fun mm f' w' => ∃ (k : Nat), mm = cs.length - k ∧ k ≤ cs.length ∧ ((cs.take k).all (callPoss (tabT ms))) = true ∧ f' 17 = .int .i64 (k : Int) ∧ f' 0 = .slice a ms.length c ∧ f' 15 = .slice b cs.length e ∧ f' 16 = .int .i64 (cs.length : Int) ∧ w.grownBy w' none) (cs.length - 0) ⟨0, rfl, (Nat.zero_le _), rfl, rfl, e8791, rfl, rfl, hb8796⟩ ?_
   rintro mm f8802 w8803 ⟨k, hm8805, hk, hall, e8806, e8807, e8808, e8809, hb8804⟩
   refine wpf_seq_region ?_
   refine wpo_lss (q := decide ((k : Int) < (cs.length : Int))) e8806 e8809 rfl rfl ?_
   refine wpo_nil ?_
   refine wpf_seq ?_
   refine wpf_cond rfl (fun h8810 => ?_) (fun h8810 => ?_)
   ·
    have h8811 := of_decide_eq_true h8810
    refine wpf_skip ?_
    refine thn_n ?_
    refine wpf_seq ?_
    refine wpf_block ?_
    refine wpf_seq_region ?_
    obtain ⟨b8814, q8815, o8816, ha8817, ho8818, hr8819⟩ := SlAt.at (SlAt.low hs hb8804) (map_get (cAt_get (show k < cs.length by omega)))
    refine wpo_indexE es_69 e8808 e8806 ha8817 ho8818 (by omega) (by omega) rfl ?_
    refine wpo_loadn (vs := [.int .i64 ((cAt cs k).kind), .int .i64 ((cAt cs k).run), .int .i64 ((cAt cs k).a), .int .i64 ((cAt cs k).b), .int .i64 ((cAt cs k).n)]) rt_76 rfl rfl (range_sub hr8819 0 5 rfl) rfl ?_
    refine wpo_alloc (cs := #[.int .i64 0, .int .i64 0, .int .i64 0, .int .i64 0, .int .i64 0]) zt_76 rfl rfl ?_
    intro B8820 w8821 hN8822
    have hlB8820 := hN_ge hN8822 hb8804
    have hb8823 := low0 hb8804 hN8822.grw
    refine wpo_storen (vs := [.int .i64 ((cAt cs k).kind), .int .i64 ((cAt cs k).run), .int .i64 ((cAt cs k).a), .int .i64 ((cAt cs k).b), .int .i64 ((cAt cs k).n)]) (cs' := #[.int .i64 ((cAt cs k).kind), .int .i64 ((cAt cs k).run), .int .i64 ((cAt cs k).a), .int .i64 ((cAt cs k).b), .int .i64 ((cAt cs k).n)]) rt_76 rfl rfl rfl (by simp [Value.oneCell']) hN8822.blk (Nat.le_of_ble_eq_true rfl) rfl ?_
    intro w8824 hS8825
    have hb8826 := low1 hb8823 hS8825.grw (by omega)
    refine wpo_nil ?_
    refine wpf_seq_region ?_
    refine wpo_move (v := .slice a ms.length c) e8807 rfl ?_
    refine wpo_loadn (vs := [.int .i64 ((cAt cs k).kind), .int .i64 ((cAt cs k).run), .int .i64 ((cAt cs k).a), .int .i64 ((cAt cs k).b), .int .i64 ((cAt cs k).n)]) rt_76 rfl rfl (hS8825.blk.rangeL 0 5 rfl) rfl ?_
    refine wpo_call (vs := [.slice a ms.length c, .agg #[.int .i64 ((cAt cs k).kind), .int .i64 ((cAt cs k).run), .int .i64 ((cAt cs k).a), .int .i64 ((cAt cs k).b), .int .i64 ((cAt cs k).n)]]) gf_110 (args_cons rfl (args_cons rfl args_nil)) rfl (callPoss_c (cAt cs k) _ ms _ _ (TabAt.low ht hb8826) hlen (by omega)) ?_
    rintro _ w8827 ⟨rfl, hg8828⟩
    have hb8829 := low0 hb8826 hg8828
    refine wpo_not (b' := !callPoss (tabT ms) (cAt cs k)) rfl rfl rfl ?_
    refine wpo_nil ?_
    refine wpf_cond rfl (fun h8830 => ?_) (fun h8830 => ?_)
    ·
     have h8831 := nt_t h8830
     refine wpf_seq_region ?_
     refine wpo_assign (v := .bool false) rfl rfl ?_
     refine wpo_nil ?_
     refine wpf_ret ?_
     refine blk_r ?_
     refine thn_r ?_
     refine thn_r ?_
     refine blk_r ?_
     refine thn_r ?_
     refine ⟨.bool false, res1 rfl rfl, ?_, hb8829⟩
     exact congrArg Value.bool (script_no2 (k := k) (cAt_get (by omega)) h8831).symm
    ·
     have h8832 := nt_f h8830
     refine wpf_skip ?_
     refine blk_n ?_
     refine thn_n ?_
     refine wpf_region ?_
     refine wpo_add (c := (k : Int) + 1) e8806 rfl (by omega) (by omega) (by omega) rfl ?_
     refine wpo_move (v := .int .i64 ((k : Int) + 1)) rfl rfl ?_
     refine wpo_nil ?_
     refine thn_n ?_
     exact ⟨cs.length - (k + 1), by omega, (k + 1), rfl, (by omega), (take_all_succ (p := callPoss (tabT ms)) hall (cAt_get (by omega)) h8832), rfl, e8807, e8808, e8809, hb8829⟩
   ·
    have h8833 := of_decide_eq_false h8810
    refine wpf_exit ?_
    refine thn_e ?_
    refine thn_e ?_
    refine blk_e ?_
    refine thn_n ?_
    refine wpf_seq_region ?_
    refine wpo_assign (v := .bool true) rfl rfl ?_
    refine wpo_nil ?_
    refine wpf_ret ?_
    refine ⟨.bool true, res1 rfl rfl, ?_, hb8804⟩
    exact congrArg Value.bool (script_yes h8797 hall (by omega)).symm

theorem runLow1_c (k : Int) (l : Lab) (w : World) (ms : List MTh) (a : Option Addr) (c : Nat) (ht : TabAt w a ms) (hlen : TabLen ms) (hn : ms.length ≤ 1048576) (hk : 1 ≤ k ∧ k ≤ (ms.length : Int)) : CallsR Try.prog 94 #[.slice a ms.length c, .int .i64 k, .agg #[.int .i64 l.s, .int .i64 l.v]] w (fun v w' => v = .bool (labelFlow (mAt ms (k - 1).toNat).t.lab l) ∧ w.grownBy w' none) := by
 refine calls_of_wpf (n := 15) Try.func94 rfl Try.ntmps94 rfl ?_
 have hb0 := World.grownBy.refl w none
 refine wpf_seq_region ?_
 refine wpo_box (v := .agg #[.int .i64 l.s, .int .i64 l.v]) (cs := #[.int .i64 l.s, .int .i64 l.v]) rfl rfl rfl ?_
 intro B8834 w8835 hN8836
 have hlB8834 := hN_ge hN8836 hb0
 have hb8837 := low0 hb0 hN8836.grw
 refine wpo_assign (v := .bool false) rfl rfl ?_
 refine wpo_nil ?_
 refine wpf_seq ?_
 obtain ⟨b8864, q8865, o8866, ha8867, ho8868, hr8869⟩ := SlAt.at (TabAt.low ht hb8837).1 (map_get (mAt_get (show (k - 1).toNat < ms.length by omega)))
 have hle8870 := TabLen.at hlen (mAt_get (show (k - 1).toNat < ms.length by omega))
 refine wpf_draw (m := 7) (vals := [(7, .slice a ms.length c), (8, .int .i64 k), (9, .int .i64 (k - 1)), (10, .pointer (some ⟨b8864, o8866, none⟩)), (11, .pointer (some ⟨b8864, o8866 + 1, none⟩)), (12, .agg #[.int .i64 ((mAt ms ((k - 1).toNat)).t.lab.s), .int .i64 ((mAt ms ((k - 1).toNat)).t.lab.v)]), (13, .agg #[.int .i64 l.s, .int .i64 l.v])]) (fun w' => w8835.grownBy w' none) mixed_ (by kernel_rfl) (grown_drew _) ?_ ?_
 ·
  refine yll_cons rfl (fun w8874 hi8875 => ?_) ?_
  ·
   have hb8876 := low0 hb8837 hi8875
   refine wpo_move (v := .slice a ms.length c) rfl rfl ?_
   exact wpo_nil ⟨rfl, hi8875⟩
  refine yll_cons rfl (fun w8877 hi8878 => ?_) ?_
  ·
   have hb8879 := low0 hb8837 hi8878
   refine wpo_move (v := .int .i64 k) rfl rfl ?_
   exact wpo_nil ⟨rfl, hi8878⟩
  refine yll_cons rfl (fun w8880 hi8881 => ?_) ?_
  ·
   have hb8882 := low0 hb8837 hi8881
   refine wpo_sub (c := k - 1) rfl rfl (by omega) (by omega) (by omega) rfl ?_
   exact wpo_nil ⟨rfl, hi8881⟩
  refine yll_cons rfl (fun w8883 hi8884 => ?_) ?_
  ·
   have hb8885 := low0 hb8837 hi8884
   refine wpo_indexE es_54 rfl rfl ha8867 ho8868 (by omega) (by omega) rfl ?_
   exact wpo_nil ⟨rfl, hi8884⟩
  refine yll_cons rfl (fun w8886 hi8887 => ?_) ?_
  ·
   have hb8888 := low0 hb8837 hi8887
   refine wpo_fieldAddr (o' := o8866 + 1) fo_45_1 rfl rfl rfl ?_
   exact wpo_nil ⟨rfl, hi8887⟩
  refine yll_cons rfl (fun w8889 hi8890 => ?_) ?_
  ·
   have hb8891 := low0 hb8837 hi8890
   refine wpo_loadn (vs := [.int .i64 ((mAt ms ((k - 1).toNat)).t.lab.s), .int .i64 ((mAt ms ((k - 1).toNat)).t.lab.v)]) rt_40 rfl rfl (range_sub (range_low hr8869 hi8890) 1 2 rfl) rfl ?_
   exact wpo_nil ⟨rfl, hi8890⟩
  refine yll_cons rfl (fun w8892 hi8893 => ?_) ?_
  ·
   have hb8894 := low0 hb8837 hi8893
   have k8895 := (hN8836.blk.grown0 hi8893)
   refine wpo_loadn (vs := [.int .i64 l.s, .int .i64 l.v]) rt_40 rfl rfl (k8895.rangeL 0 2 rfl) rfl ?_
   exact wpo_nil ⟨rfl, hi8893⟩
  exact yll_nil
 ·
  intro w8896 hi8897
  have hb8898 := low0 hb8837 hi8897
  refine wpo_call (vs := [.agg #[.int .i64 ((mAt ms ((k - 1).toNat)).t.lab.s), .int .i64 ((mAt ms ((k - 1).toNat)).t.lab.v)], .agg #[.int .i64 l.s, .int .i64 l.v]]) gf_36 (args_cons rfl (args_cons rfl args_nil)) rfl (LabelFlow_c ((mAt ms ((k - 1).toNat)).t.lab) l _) ?_
  rintro _ w8899 ⟨rfl, hg8900⟩
  have hb8901 := low0 hb8898 hg8900
  refine wpo_assign (v := .bool (labelFlow ((mAt ms ((k - 1).toNat)).t.lab) l)) rfl rfl ?_
  refine wpo_nil ?_
  refine thn_n ?_
  refine wpf_ret ?_
  refine ⟨.bool (labelFlow ((mAt ms ((k - 1).toNat)).t.lab) l), res1 rfl rfl, ?_, hb8901⟩
  rfl

theorem RunQuiet_c (l : Lab) (w : World) (ms : List MTh) (a : Option Addr) (c : Nat) (ht : TabAt w a ms) (hlen : TabLen ms) (hn : ms.length ≤ 1048576) (cs : List Cl) (b : Option Addr) (e : Nat) (hs : SlAt w b 5 (cs.map Cl.cells)) (hm : cs.length ≤ 1048576) : CallsR Try.prog 43 #[.slice a ms.length c, .slice b cs.length e, .agg #[.int .i64 l.s, .int .i64 l.v]] w (fun v w' => v = .bool (runQuiet (tabT ms) cs l) ∧ w.grownBy w' none) := by
 refine calls_of_wpf (n := 36) Try.func43 rfl Try.ntmps43 rfl ?_
 have hb0 := World.grownBy.refl w none
 refine wpf_seq_region ?_
 refine wpo_box (v := .agg #[.int .i64 l.s, .int .i64 l.v]) (cs := #[.int .i64 l.s, .int .i64 l.v]) rfl rfl rfl ?_
 intro B8902 w8903 hN8904
 have hlB8902 := hN_ge hN8904 hb0
 have hb8905 := low0 hb0 hN8904.grw
 refine wpo_assign (v := .bool false) rfl rfl ?_
 refine wpo_nil ?_
 refine wpf_seq ?_
 refine wpf_seq_region_mid (fun f' w' => (f' 0 = .slice a ms.length c ∧ f' 1 = .slice b cs.length e ∧ f' 5 = .pointer (some ⟨B8902, 0, none⟩) ∧ f' 6 = .bool false ∧ f' 17 = .bool ((!scriptOk (tabT ms) cs) || (!labelOk l))) ∧ w8903.grownBy w' none) ?_ ?_
 ·
  refine wpo_move (v := .slice a ms.length c) rfl rfl ?_
  refine wpo_move (v := .slice b cs.length e) rfl rfl ?_
  refine wpo_call (vs := [.slice a ms.length c, .slice b cs.length e]) gf_93 (args_cons rfl (args_cons rfl args_nil)) rfl (scriptOk_c  _ ms _ _ (TabAt.low ht hb8905) hlen (by omega) cs _ _ (SlAt.low hs hb8905) (by omega)) ?_
  rintro _ w8916 ⟨rfl, hg8917⟩
  have hb8918 := low0 hb8905 hg8917
  refine wpo_not (b' := !scriptOk (tabT ms) cs) rfl rfl rfl ?_
  refine wpo_move (v := .bool (!scriptOk (tabT ms) cs)) rfl rfl ?_
  rcases bcases (!scriptOk (tabT ms) cs) with h8919 | h8919
  ·
   have h8920 := nt_t h8919
   iterate 3 refine wpo_pass rfl rfl rfl h8919 rfl ?_
   refine wpo_pickt (v := .bool true) rfl h8919 rfl rfl ?_
   exact wpo_nil ⟨⟨rfl, rfl, rfl, rfl, (congrArg Value.bool (by first | (simp only [h8919, h8920, b0, b1, b2, b3, b4, b5, b6, b7, b8, b9]; done) | simp [h8919, h8920]))⟩, hg8917⟩
  ·
   have h8921 := nt_f h8919
   have hrun8922 := script_run h8921
   have htk8923 := (script_parts h8921).1
   refine wpo_run rfl rfl rfl h8919 ?_
   have k8924 := (hN8904.blk.grown0 hg8917)
   refine wpo_loadn (vs := [.int .i64 l.s, .int .i64 l.v]) rt_40 rfl rfl (k8924.rangeL 0 2 rfl) rfl ?_
   refine wpo_run rfl rfl rfl h8919 ?_
   refine wpo_call (vs := [.agg #[.int .i64 l.s, .int .i64 l.v]]) gf_70 (args_cons rfl args_nil) rfl (LabelOk_c l _) ?_
   rintro _ w8925 ⟨rfl, hg8926⟩
   have hb8927 := low0 hb8918 hg8926
   refine wpo_run rfl rfl rfl h8919 ?_
   refine wpo_not (b' := !labelOk l) rfl rfl rfl ?_
   refine wpo_pickf (v := .bool (!labelOk l)) rfl h8919 rfl rfl ?_
   exact wpo_nil ⟨⟨rfl, rfl, rfl, rfl, (congrArg Value.bool (by first | (simp only [h8919, h8921, htk8923, b0, b1, b2, b3, b4, b5, b6, b7, b8, b9]; done) | simp [h8919, h8921, htk8923]))⟩, (grown_trans hg8917 hg8926)⟩
 ·
  rintro f8928 w8929 ⟨⟨e8930, e8931, e8932, e8933, e8934⟩, hg8935⟩
  have hb8936 := low0 hb8905 hg8935
  refine wpf_cond e8934 (fun h8937 => ?_) (fun h8937 => ?_)
  ·
   refine wpf_seq_region ?_
   refine wpo_assign (v := .bool false) rfl rfl ?_
   refine wpo_nil ?_
   refine wpf_ret ?_
   refine thn_r ?_
   refine ⟨.bool false, res1 rfl rfl, ?_, hb8936⟩
   exact congrArg Value.bool (quiet_no1 h8937).symm
  ·
   have h8938 := or_l h8937
   have h8939 := nt_f h8938
   have hrun8940 := script_run h8939
   have htk8941 := (script_parts h8939).1
   have h8942 := or_r h8937
   have h8943 := nt_f h8942
   refine wpf_skip ?_
   refine thn_n ?_
   refine wpf_seq ?_
   refine wpf_seq_region ?_
   refine wpo_move (v := .slice b cs.length e) e8931 rfl ?_
   refine wpo_len (by kernel_rfl) rfl rfl ?_
   refine wpo_move (v := .int .i64 0) rfl rfl ?_
   refine wpo_nil ?_
   refine wpf_block ?_
   have k8944 := (hN8904.blk.grown0 hg8935)
   refine wpf_loopN (fun mm f' w' => ∃ (k : Nat), mm = cs.length - k ∧ k ≤ cs.length ∧ ((cs.take k).all (quietOf (tabT ms) l)) = true ∧ f' 20 = .int .i64 (k : Int) ∧ f' 0 = .slice a ms.length c ∧ f' 5 = .pointer (some ⟨B8902, 0, none⟩) ∧ f' 18 = .slice b cs.length e ∧ f' 19 = .int .i64 (cs.length : Int) ∧ w.grownBy w' none ∧ Blk w' B8902 40 #[.int .i64 l.s, .int .i64 l.v]) (cs.length - 0) ⟨0, rfl, (Nat.zero_le _), rfl, rfl, e8930, e8932, rfl, rfl, hb8936, k8944⟩ ?_
   rintro mm f8945 w8946 ⟨k, hm8948, hk, hall, e8949, e8950, e8951, e8952, e8953, hb8947, k8954⟩
   refine wpf_seq_region ?_
   refine wpo_lss (q := decide ((k : Int) < (cs.length : Int))) e8949 e8953 rfl rfl ?_
   refine wpo_nil ?_
   refine wpf_seq ?_
   refine wpf_cond rfl (fun h8955 => ?_) (fun h8955 => ?_)
   ·
    have h8956 := of_decide_eq_true h8955
    refine wpf_skip ?_
    refine thn_n ?_
    refine wpf_seq ?_
    refine wpf_block ?_
    refine wpf_seq_region ?_
    obtain ⟨b8959, q8960, o8961, ha8962, ho8963, hr8964⟩ := SlAt.at (SlAt.low hs hb8947) (map_get (cAt_get (show k < cs.length by omega)))
    have hcf8965 := hrun8940 k (show k < cs.length by omega)
    refine wpo_indexE es_69 e8952 e8949 ha8962 ho8963 (by omega) (by omega) rfl ?_
    refine wpo_loadn (vs := [.int .i64 ((cAt cs k).kind), .int .i64 ((cAt cs k).run), .int .i64 ((cAt cs k).a), .int .i64 ((cAt cs k).b), .int .i64 ((cAt cs k).n)]) rt_76 rfl rfl (range_sub hr8964 0 5 rfl) rfl ?_
    refine wpo_alloc (cs := #[.int .i64 0, .int .i64 0, .int .i64 0, .int .i64 0, .int .i64 0]) zt_76 rfl rfl ?_
    intro B8966 w8967 hN8968
    have hlB8966 := hN_ge hN8968 hb8947
    have lt_B8902_B8966 := hN_gtl hN8968 (k8954).lt
    have hb8969 := low0 hb8947 hN8968.grw
    refine wpo_storen (vs := [.int .i64 ((cAt cs k).kind), .int .i64 ((cAt cs k).run), .int .i64 ((cAt cs k).a), .int .i64 ((cAt cs k).b), .int .i64 ((cAt cs k).n)]) (cs' := #[.int .i64 ((cAt cs k).kind), .int .i64 ((cAt cs k).run), .int .i64 ((cAt cs k).a), .int .i64 ((cAt cs k).b), .int .i64 ((cAt cs k).n)]) rt_76 rfl rfl rfl (by simp [Value.oneCell']) hN8968.blk (Nat.le_of_ble_eq_true rfl) rfl ?_
    intro w8970 hS8971
    have hb8972 := low1 hb8969 hS8971.grw (by omega)
    refine wpo_nil ?_
    refine wpf_seq_region_mid (fun f' w' => (f' 0 = .slice a ms.length c ∧ f' 5 = .pointer (some ⟨B8902, 0, none⟩) ∧ f' 18 = .slice b cs.length e ∧ f' 19 = .int .i64 (cs.length : Int) ∧ f' 20 = .int .i64 (k : Int) ∧ f' 34 = .bool ((decide ((cAt cs k).kind = 9)) && (!labelFlow (mAt ms (((cAt cs k).run) - 1).toNat).t.lab l))) ∧ w8970.grownBy w' none) ?_ ?_
    ·
     refine wpo_fieldAddr (o' := 0) fo_76_0 rfl rfl rfl ?_
     refine wpo_load1 (v := .int .i64 ((cAt cs k).kind)) ot_3 rfl (hS8971.blk.cell rfl) rfl ?_
     refine wpo_eql (q := decide ((cAt cs k).kind = 9)) rfl rfl rfl rfl ?_
     refine wpo_move (v := .bool (decide ((cAt cs k).kind = 9))) rfl rfl ?_
     rcases bcases (decide ((cAt cs k).kind = 9)) with h8977 | h8977
     ·
      have h8978 := of_decide_eq_true h8977
      refine wpo_run rfl rfl rfl h8977 ?_
      refine wpo_move (v := .slice a ms.length c) e8950 rfl ?_
      refine wpo_run rfl rfl rfl h8977 ?_
      refine wpo_fieldAddr (o' := 1) fo_76_1 rfl rfl rfl ?_
      refine wpo_run rfl rfl rfl h8977 ?_
      refine wpo_load1 (v := .int .i64 ((cAt cs k).run)) ot_3 rfl (hS8971.blk.cell rfl) rfl ?_
      refine wpo_run rfl rfl rfl h8977 ?_
      have k8979 := ((k8954.grown0 hN8968.grw).grown hS8971.grw (some_ne (by omega)))
      refine wpo_loadn (vs := [.int .i64 l.s, .int .i64 l.v]) rt_40 e8951 rfl (k8979.rangeL 0 2 rfl) rfl ?_
      refine wpo_run rfl rfl rfl h8977 ?_
      refine wpo_call (vs := [.slice a ms.length c, .int .i64 ((cAt cs k).run), .agg #[.int .i64 l.s, .int .i64 l.v]]) gf_94 (args_cons rfl (args_cons rfl (args_cons rfl args_nil))) rfl (runLow1_c ((cAt cs k).run) l _ ms _ _ (TabAt.low ht hb8972) hlen (by omega) (by omega)) ?_
      rintro _ w8980 ⟨rfl, hg8981⟩
      have hb8982 := low0 hb8972 hg8981
      refine wpo_run rfl rfl rfl h8977 ?_
      refine wpo_not (b' := !labelFlow (mAt ms (((cAt cs k).run) - 1).toNat).t.lab l) rfl rfl rfl ?_
      refine wpo_pickt (v := .bool (!labelFlow (mAt ms (((cAt cs k).run) - 1).toNat).t.lab l)) rfl h8977 rfl rfl ?_
      exact wpo_nil ⟨⟨e8950, e8951, e8952, e8953, e8949, (congrArg Value.bool (by first | (simp only [h8937, h8938, h8939, h8942, h8943, h8955, h8977, htk8941, b0, b1, b2, b3, b4, b5, b6, b7, b8, b9]; done) | simp [h8937, h8938, h8939, h8942, h8943, h8955, h8977, htk8941]))⟩, hg8981⟩
     ·
      have h8983 := of_decide_eq_false h8977
      iterate 6 refine wpo_pass rfl rfl rfl h8977 rfl ?_
      refine wpo_pickf (v := .bool false) rfl h8977 rfl rfl ?_
      exact wpo_nil ⟨⟨e8950, e8951, e8952, e8953, e8949, (congrArg Value.bool (by first | (simp only [h8937, h8938, h8939, h8942, h8943, h8955, h8977, htk8941, b0, b1, b2, b3, b4, b5, b6, b7, b8, b9]; done) | simp [h8937, h8938, h8939, h8942, h8943, h8955, h8977, htk8941]))⟩, (World.grownBy.refl _ _)⟩
    ·
     rintro f8984 w8985 ⟨⟨e8986, e8987, e8988, e8989, e8990, e8991⟩, hg8992⟩
     have hb8993 := low0 hb8972 hg8992
     refine wpf_cond e8991 (fun h8994 => ?_) (fun h8994 => ?_)
     ·
      have h8995 := and_l h8994
      have h8996 := of_decide_eq_true h8995
      have h8997 := and_r h8994
      have h8998 := nt_t h8997
      refine wpf_seq_region ?_
      refine wpo_assign (v := .bool false) rfl rfl ?_
      refine wpo_nil ?_
      refine wpf_ret ?_
      refine blk_r ?_
      refine thn_r ?_
      refine thn_r ?_
      refine blk_r ?_
      refine thn_r ?_
      refine ⟨.bool false, res1 rfl rfl, ?_, hb8993⟩
      exact congrArg Value.bool (quiet_no2 (k := k) (cAt_get (by omega)) (by unfold quietOf; rw [← low_i htk8941 h8943 (by omega) (by omega), h8994]; rfl)).symm
     ·
      refine wpf_skip ?_
      refine blk_n ?_
      refine thn_n ?_
      refine wpf_region ?_
      refine wpo_add (c := (k : Int) + 1) e8990 rfl (by omega) (by omega) (by omega) rfl ?_
      refine wpo_move (v := .int .i64 ((k : Int) + 1)) rfl rfl ?_
      refine wpo_nil ?_
      refine thn_n ?_
      have k8999 := (((k8954.grown0 hN8968.grw).grown hS8971.grw (some_ne (by omega))).grown0 hg8992)
      exact ⟨cs.length - (k + 1), by omega, (k + 1), rfl, (by omega), (take_all_succ (p := quietOf (tabT ms) l) hall (cAt_get (by omega)) (by unfold quietOf; rw [← low_i htk8941 h8943 (by omega) (by omega), h8994]; rfl)), rfl, e8986, e8987, e8988, e8989, hb8993, k8999⟩
   ·
    have h9000 := of_decide_eq_false h8955
    refine wpf_exit ?_
    refine thn_e ?_
    refine thn_e ?_
    refine blk_e ?_
    refine thn_n ?_
    refine wpf_seq_region ?_
    refine wpo_assign (v := .bool true) rfl rfl ?_
    refine wpo_nil ?_
    refine wpf_ret ?_
    refine ⟨.bool true, res1 rfl rfl, ?_, hb8947⟩
    exact congrArg Value.bool (quiet_yes h8937 hall (by omega)).symm

theorem sRunQuiet_c (l : Lab) (w : World) (ms : List MTh) (a : Option Addr) (c : Nat) (ht : TabAt w a ms) (hlen : TabLen ms) (hn : ms.length ≤ 1048576) (cs : List Cl) (b : Option Addr) (e : Nat) (hs : SlAt w b 5 (cs.map Cl.cells)) (hm : cs.length ≤ 1048576) : CallsR Try.prog 41 #[.slice a ms.length c, .slice b cs.length e, .agg #[.int .i64 l.s, .int .i64 l.v]] w (fun v w' => v = .bool (runQuiet (tabT ms) cs l) ∧ w.grownBy w' none) := by
 refine calls_of_wpf (n := 49) Try.func41 rfl Try.ntmps41 rfl ?_
 have hb0 := World.grownBy.refl w none
 refine wpf_seq_region ?_
 refine wpo_box (v := .agg #[.int .i64 l.s, .int .i64 l.v]) (cs := #[.int .i64 l.s, .int .i64 l.v]) rfl rfl rfl ?_
 intro B9001 w9002 hN9003
 have hlB9001 := hN_ge hN9003 hb0
 have hb9004 := low0 hb0 hN9003.grw
 refine wpo_assign (v := .bool false) rfl rfl ?_
 refine wpo_nil ?_
 refine wpf_seq ?_
 refine wpf_seq_region_mid (fun f' w' => (f' 0 = .slice a ms.length c ∧ f' 1 = .slice b cs.length e ∧ f' 5 = .pointer (some ⟨B9001, 0, none⟩) ∧ f' 6 = .bool false ∧ f' 21 = .bool (((!tableOk (tabT ms)) || (!callsIn_ (tabT ms) cs)) || (!labelOk l))) ∧ w9002.grownBy w' none) ?_ ?_
 ·
  refine wpo_move (v := .slice a ms.length c) rfl rfl ?_
  refine wpo_call (vs := [.slice a ms.length c]) gf_34 (args_cons rfl args_nil) rfl (sTableOk_c  _ ms _ _ (TabAt.low ht hb9004) hlen (by omega)) ?_
  rintro _ w9018 ⟨rfl, hg9019⟩
  have hb9020 := low0 hb9004 hg9019
  refine wpo_not (b' := !tableOk (tabT ms)) rfl rfl rfl ?_
  refine wpo_move (v := .bool (!tableOk (tabT ms))) rfl rfl ?_
  rcases bcases (!tableOk (tabT ms)) with h9021 | h9021
  ·
   have h9022 := nt_t h9021
   iterate 4 refine wpo_pass rfl rfl rfl h9021 rfl ?_
   refine wpo_pickt (v := .bool true) rfl h9021 rfl rfl ?_
   refine wpo_move (v := .bool true) rfl rfl ?_
   iterate 3 refine wpo_pass rfl rfl rfl rfl rfl ?_
   refine wpo_pickt (v := .bool true) rfl rfl rfl rfl ?_
   exact wpo_nil ⟨⟨rfl, rfl, rfl, rfl, (congrArg Value.bool (by first | (simp only [h9021, h9022, b0, b1, b2, b3, b4, b5, b6, b7, b8, b9]; done) | simp [h9021, h9022]))⟩, hg9019⟩
  ·
   have h9023 := nt_f h9021
   refine wpo_run rfl rfl rfl h9021 ?_
   refine wpo_move (v := .slice a ms.length c) rfl rfl ?_
   refine wpo_run rfl rfl rfl h9021 ?_
   refine wpo_move (v := .slice b cs.length e) rfl rfl ?_
   refine wpo_run rfl rfl rfl h9021 ?_
   refine wpo_call (vs := [.slice a ms.length c, .slice b cs.length e]) gf_91 (args_cons rfl (args_cons rfl args_nil)) rfl (l21Calls_c  _ ms _ _ (TabAt.low ht hb9020) hlen (by omega) cs _ _ (SlAt.low hs hb9020) (by omega)) ?_
   rintro _ w9024 ⟨rfl, hg9025⟩
   have hb9026 := low0 hb9020 hg9025
   refine wpo_run rfl rfl rfl h9021 ?_
   refine wpo_not (b' := !callsIn_ (tabT ms) cs) rfl rfl rfl ?_
   refine wpo_pickf (v := .bool (!callsIn_ (tabT ms) cs)) rfl h9021 rfl rfl ?_
   refine wpo_move (v := .bool (!callsIn_ (tabT ms) cs)) rfl rfl ?_
   rcases bcases (!callsIn_ (tabT ms) cs) with h9027 | h9027
   ·
    have h9028 := nt_t h9027
    iterate 3 refine wpo_pass rfl rfl rfl h9027 rfl ?_
    refine wpo_pickt (v := .bool true) rfl h9027 rfl rfl ?_
    exact wpo_nil ⟨⟨rfl, rfl, rfl, rfl, (congrArg Value.bool (by first | (simp only [h9021, h9023, h9027, h9028, b0, b1, b2, b3, b4, b5, b6, b7, b8, b9]; done) | simp [h9021, h9023, h9027, h9028]))⟩, (grown_trans hg9019 hg9025)⟩
   ·
    have h9029 := nt_f h9027
    have hsc9030 : scriptOk (tabT ms) cs = true := by unfold scriptOk; rw [h9023, h9029]; rfl
    have hrun9031 := script_run hsc9030
    refine wpo_run rfl rfl rfl h9027 ?_
    have k9032 := ((hN9003.blk.grown0 hg9019).grown0 hg9025)
    refine wpo_loadn (vs := [.int .i64 l.s, .int .i64 l.v]) rt_40 rfl rfl (k9032.rangeL 0 2 rfl) rfl ?_
    refine wpo_run rfl rfl rfl h9027 ?_
    refine wpo_call (vs := [.agg #[.int .i64 l.s, .int .i64 l.v]]) gf_35 (args_cons rfl args_nil) rfl (sLabelOk_c l _) ?_
    rintro _ w9033 ⟨rfl, hg9034⟩
    have hb9035 := low0 hb9026 hg9034
    refine wpo_run rfl rfl rfl h9027 ?_
    refine wpo_not (b' := !labelOk l) rfl rfl rfl ?_
    refine wpo_pickf (v := .bool (!labelOk l)) rfl h9027 rfl rfl ?_
    exact wpo_nil ⟨⟨rfl, rfl, rfl, rfl, (congrArg Value.bool (by first | (simp only [h9021, h9023, h9027, h9029, b0, b1, b2, b3, b4, b5, b6, b7, b8, b9]; done) | simp [h9021, h9023, h9027, h9029]))⟩, (grown_trans (grown_trans hg9019 hg9025) hg9034)⟩
 ·
  rintro f9036 w9037 ⟨⟨e9038, e9039, e9040, e9041, e9042⟩, hg9043⟩
  have hb9044 := low0 hb9004 hg9043
  refine wpf_cond e9042 (fun h9045 => ?_) (fun h9045 => ?_)
  ·
   refine wpf_seq_region ?_
   refine wpo_assign (v := .bool false) rfl rfl ?_
   refine wpo_nil ?_
   refine wpf_ret ?_
   refine thn_r ?_
   refine ⟨.bool false, res1 rfl rfl, ?_, hb9044⟩
   exact congrArg Value.bool (quiet_no1 (script_s.trans h9045)).symm
  ·
   have h9046 := or_l h9045
   have h9047 := or_l h9046
   have h9048 := nt_f h9047
   have h9049 := or_r h9046
   have h9050 := nt_f h9049
   have hsc9051 : scriptOk (tabT ms) cs = true := by unfold scriptOk; rw [h9048, h9050]; rfl
   have hrun9052 := script_run hsc9051
   have h9053 := or_r h9045
   have h9054 := nt_f h9053
   refine wpf_skip ?_
   refine thn_n ?_
   refine wpf_seq ?_
   refine wpf_seq_region ?_
   refine wpo_assign (v := .int .i64 0) rfl rfl ?_
   refine wpo_nil ?_
   refine wpf_block ?_
   have k9055 := (hN9003.blk.grown0 hg9043)
   refine wpf_loopN (fun mm f' w' => ∃ (k : Nat), mm = cs.length - k ∧ k ≤ cs.length ∧ ((cs.take k).all (quietOf (tabT ms) l)) = true ∧ f' 7 = .int .i64 (k : Int) ∧ f' 0 = .slice a ms.length c ∧ f' 1 = .slice b cs.length e ∧ f' 5 = .pointer (some ⟨B9001, 0, none⟩) ∧ w.grownBy w' none ∧ Blk w' B9001 40 #[.int .i64 l.s, .int .i64 l.v]) (cs.length - 0) ⟨0, rfl, (Nat.zero_le _), rfl, rfl, e9038, e9039, e9040, hb9044, k9055⟩ ?_
   rintro mm f9056 w9057 ⟨k, hm9059, hk, hall, e9060, e9061, e9062, e9063, hb9058, k9064⟩
   refine wpf_seq ?_
   refine wpf_seq_region ?_
   refine wpo_move (v := .int .i64 (k : Int)) e9060 rfl ?_
   refine wpo_move (v := .slice b cs.length e) e9062 rfl ?_
   refine wpo_len (by kernel_rfl) rfl rfl ?_
   refine wpo_lss (q := decide ((k : Int) < (cs.length : Int))) rfl rfl rfl rfl ?_
   refine wpo_nil ?_
   refine wpf_cond rfl (fun h9065 => ?_) (fun h9065 => ?_)
   ·
    have h9066 := of_decide_eq_true h9065
    refine wpf_skip ?_
    refine thn_n ?_
    refine wpf_seq ?_
    refine wpf_block ?_
    refine wpf_seq_mid (fun f' w' => (f' 0 = .slice a ms.length c ∧ f' 1 = .slice b cs.length e ∧ f' 5 = .pointer (some ⟨B9001, 0, none⟩) ∧ f' 7 = .int .i64 (k : Int) ∧ f' 48 = .bool ((decide ((cAt cs k).kind = 9)) && (!flow ((mAt ms ((((cAt cs k).run) - 1).toNat)).t.lab) l))) ∧ w9057.grownBy w' none) ?_ ?_
    ·
     rcases bcases (decide ((cAt cs k).kind = 9)) with h9106 | h9106
     ·
      have h9107 := of_decide_eq_true h9106
      obtain ⟨b9131, q9132, o9133, ha9134, ho9135, hr9136⟩ := SlAt.at (SlAt.low hs hb9058) (map_get (cAt_get (show k < cs.length by omega)))
      have hcf9137 := hrun9052 k (show k < cs.length by omega)
      obtain ⟨b9140, q9141, o9142, ha9143, ho9144, hr9145⟩ := SlAt.at (TabAt.low ht hb9058).1 (map_get (mAt_get (show (((cAt cs k).run) - 1).toNat < ms.length by omega)))
      have hle9146 := TabLen.at hlen (mAt_get (show (((cAt cs k).run) - 1).toNat < ms.length by omega))
      refine wpf_draw (m := 18) (vals := [(28, .slice b cs.length e), (29, .int .i64 (k : Int)), (30, .pointer (some ⟨b9131, o9133, none⟩)), (31, .pointer (some ⟨b9131, o9133, none⟩)), (32, .int .i64 ((cAt cs k).kind)), (33, .bool (decide ((cAt cs k).kind = 9))), (34, .bool (decide ((cAt cs k).kind = 9))), (35, .slice a ms.length c), (36, .slice b cs.length e), (37, .int .i64 (k : Int)), (38, .pointer (some ⟨b9131, o9133, none⟩)), (39, .pointer (some ⟨b9131, o9133 + 1, none⟩)), (40, .int .i64 ((cAt cs k).run)), (41, .int .i64 (((cAt cs k).run) - 1)), (42, .pointer (some ⟨b9140, o9142, none⟩)), (43, .pointer (some ⟨b9140, o9142 + 1, none⟩)), (44, .agg #[.int .i64 ((mAt ms ((((cAt cs k).run) - 1).toNat)).t.lab.s), .int .i64 ((mAt ms ((((cAt cs k).run) - 1).toNat)).t.lab.v)]), (45, .agg #[.int .i64 l.s, .int .i64 l.v])]) (fun w' => w9057.grownBy w' none) mixed_ (by kernel_rfl) (grown_drew _) ?_ ?_
      ·
       refine yll_cons rfl (fun w9150 hi9151 => ?_) ?_
       ·
        have hb9152 := low0 hb9058 hi9151
        refine wpo_move (v := .slice b cs.length e) e9062 rfl ?_
        exact wpo_nil ⟨rfl, hi9151⟩
       refine yll_cons rfl (fun w9153 hi9154 => ?_) ?_
       ·
        have hb9155 := low0 hb9058 hi9154
        refine wpo_move (v := .int .i64 (k : Int)) e9060 rfl ?_
        exact wpo_nil ⟨rfl, hi9154⟩
       refine yll_cons rfl (fun w9156 hi9157 => ?_) ?_
       ·
        have hb9158 := low0 hb9058 hi9157
        refine wpo_indexE es_69 rfl rfl ha9134 ho9135 (by omega) (by omega) rfl ?_
        exact wpo_nil ⟨rfl, hi9157⟩
       refine yll_cons rfl (fun w9159 hi9160 => ?_) ?_
       ·
        have hb9161 := low0 hb9058 hi9160
        refine wpo_fieldAddr (o' := o9133) fo_76_0 rfl rfl rfl ?_
        exact wpo_nil ⟨rfl, hi9160⟩
       refine yll_cons rfl (fun w9162 hi9163 => ?_) ?_
       ·
        have hb9164 := low0 hb9058 hi9163
        refine wpo_load1 (v := .int .i64 ((cAt cs k).kind)) ot_3 rfl ((range_low hr9136 hi9163) 0 _ rfl) rfl ?_
        exact wpo_nil ⟨rfl, hi9163⟩
       refine yll_cons rfl (fun w9165 hi9166 => ?_) ?_
       ·
        have hb9167 := low0 hb9058 hi9166
        refine wpo_eql (q := decide ((cAt cs k).kind = 9)) rfl rfl rfl rfl ?_
        exact wpo_nil ⟨rfl, hi9166⟩
       refine yll_cons rfl (fun w9168 hi9169 => ?_) ?_
       ·
        have hb9170 := low0 hb9058 hi9169
        refine wpo_move (v := .bool (decide ((cAt cs k).kind = 9))) rfl rfl ?_
        exact wpo_nil ⟨rfl, hi9169⟩
       refine yll_cons rfl (fun w9171 hi9172 => ?_) ?_
       ·
        have hb9173 := low0 hb9058 hi9172
        refine wpo_run rfl rfl rfl h9106 ?_
        refine wpo_move (v := .slice a ms.length c) e9061 rfl ?_
        exact wpo_nil ⟨rfl, hi9172⟩
       refine yll_cons rfl (fun w9174 hi9175 => ?_) ?_
       ·
        have hb9176 := low0 hb9058 hi9175
        refine wpo_run rfl rfl rfl h9106 ?_
        refine wpo_move (v := .slice b cs.length e) e9062 rfl ?_
        exact wpo_nil ⟨rfl, hi9175⟩
       refine yll_cons rfl (fun w9177 hi9178 => ?_) ?_
       ·
        have hb9179 := low0 hb9058 hi9178
        refine wpo_run rfl rfl rfl h9106 ?_
        refine wpo_move (v := .int .i64 (k : Int)) e9060 rfl ?_
        exact wpo_nil ⟨rfl, hi9178⟩
       refine yll_cons rfl (fun w9180 hi9181 => ?_) ?_
       ·
        have hb9182 := low0 hb9058 hi9181
        refine wpo_run rfl rfl rfl h9106 ?_
        refine wpo_indexE es_69 rfl rfl ha9134 ho9135 (by omega) (by omega) rfl ?_
        exact wpo_nil ⟨rfl, hi9181⟩
       refine yll_cons rfl (fun w9183 hi9184 => ?_) ?_
       ·
        have hb9185 := low0 hb9058 hi9184
        refine wpo_run rfl rfl rfl h9106 ?_
        refine wpo_fieldAddr (o' := o9133 + 1) fo_76_1 rfl rfl rfl ?_
        exact wpo_nil ⟨rfl, hi9184⟩
       refine yll_cons rfl (fun w9186 hi9187 => ?_) ?_
       ·
        have hb9188 := low0 hb9058 hi9187
        refine wpo_run rfl rfl rfl h9106 ?_
        refine wpo_load1 (v := .int .i64 ((cAt cs k).run)) ot_3 rfl ((range_low hr9136 hi9187) 1 _ rfl) rfl ?_
        exact wpo_nil ⟨rfl, hi9187⟩
       refine yll_cons rfl (fun w9189 hi9190 => ?_) ?_
       ·
        have hb9191 := low0 hb9058 hi9190
        refine wpo_run rfl rfl rfl h9106 ?_
        refine wpo_sub (c := ((cAt cs k).run) - 1) rfl rfl (by omega) (by omega) (by omega) rfl ?_
        exact wpo_nil ⟨rfl, hi9190⟩
       refine yll_cons rfl (fun w9192 hi9193 => ?_) ?_
       ·
        have hb9194 := low0 hb9058 hi9193
        refine wpo_run rfl rfl rfl h9106 ?_
        refine wpo_indexE es_54 rfl rfl ha9143 ho9144 (by omega) (by omega) rfl ?_
        exact wpo_nil ⟨rfl, hi9193⟩
       refine yll_cons rfl (fun w9195 hi9196 => ?_) ?_
       ·
        have hb9197 := low0 hb9058 hi9196
        refine wpo_run rfl rfl rfl h9106 ?_
        refine wpo_fieldAddr (o' := o9142 + 1) fo_45_1 rfl rfl rfl ?_
        exact wpo_nil ⟨rfl, hi9196⟩
       refine yll_cons rfl (fun w9198 hi9199 => ?_) ?_
       ·
        have hb9200 := low0 hb9058 hi9199
        refine wpo_run rfl rfl rfl h9106 ?_
        refine wpo_loadn (vs := [.int .i64 ((mAt ms ((((cAt cs k).run) - 1).toNat)).t.lab.s), .int .i64 ((mAt ms ((((cAt cs k).run) - 1).toNat)).t.lab.v)]) rt_40 rfl rfl (range_sub (range_low hr9145 hi9199) 1 2 rfl) rfl ?_
        exact wpo_nil ⟨rfl, hi9199⟩
       refine yll_cons rfl (fun w9201 hi9202 => ?_) ?_
       ·
        have hb9203 := low0 hb9058 hi9202
        refine wpo_run rfl rfl rfl h9106 ?_
        have k9204 := (k9064.grown0 hi9202)
        refine wpo_loadn (vs := [.int .i64 l.s, .int .i64 l.v]) rt_40 e9063 rfl (k9204.rangeL 0 2 rfl) rfl ?_
        exact wpo_nil ⟨rfl, hi9202⟩
       exact yll_nil
      ·
       intro w9205 hi9206
       have hb9207 := low0 hb9058 hi9206
       refine wpo_run rfl rfl rfl h9106 ?_
       have hl9208 : labelOk ((mAt ms ((((cAt cs k).run) - 1).toNat)).t.lab) = true := tab_lab h9048 (show ((((cAt cs k).run) - 1).toNat) < ms.length by omega)
       refine wpo_call (vs := [.agg #[.int .i64 ((mAt ms ((((cAt cs k).run) - 1).toNat)).t.lab.s), .int .i64 ((mAt ms ((((cAt cs k).run) - 1).toNat)).t.lab.v)], .agg #[.int .i64 l.s, .int .i64 l.v]]) gf_86 (args_cons rfl (args_cons rfl args_nil)) rfl (l1Flow_c ((mAt ms ((((cAt cs k).run) - 1).toNat)).t.lab) l hl9208 h9054 _) ?_
       rintro _ w9209 ⟨rfl, hg9210⟩
       have hb9211 := low0 hb9207 hg9210
       refine wpo_run rfl rfl rfl h9106 ?_
       refine wpo_not (b' := !flow ((mAt ms ((((cAt cs k).run) - 1).toNat)).t.lab) l) rfl rfl rfl ?_
       refine wpo_pickt (v := .bool (!flow ((mAt ms ((((cAt cs k).run) - 1).toNat)).t.lab) l)) rfl h9106 rfl rfl ?_
       exact wpo_nil (thn_n ⟨⟨e9061, e9062, e9063, e9060, (congrArg Value.bool (by first | (simp only [h9045, h9046, h9047, h9048, h9049, h9050, h9053, h9054, h9065, h9106, hl9208, b0, b1, b2, b3, b4, b5, b6, b7, b8, b9]; done) | simp [h9045, h9046, h9047, h9048, h9049, h9050, h9053, h9054, h9065, h9106, hl9208]))⟩, (grown_trans hi9206 hg9210)⟩)
     ·
      have h9212 := of_decide_eq_false h9106
      obtain ⟨b9224, q9225, o9226, ha9227, ho9228, hr9229⟩ := SlAt.at (SlAt.low hs hb9058) (map_get (cAt_get (show k < cs.length by omega)))
      have hcf9230 := hrun9052 k (show k < cs.length by omega)
      refine wpf_draw (m := 18) (vals := [(28, .slice b cs.length e), (29, .int .i64 (k : Int)), (30, .pointer (some ⟨b9224, o9226, none⟩)), (31, .pointer (some ⟨b9224, o9226, none⟩)), (32, .int .i64 ((cAt cs k).kind)), (33, .bool (decide ((cAt cs k).kind = 9))), (34, .bool (decide ((cAt cs k).kind = 9))), (35, undef), (36, undef), (37, undef), (38, undef), (39, undef), (40, undef), (41, undef), (42, undef), (43, undef), (44, undef), (45, undef)]) (fun w' => w9057.grownBy w' none) mixed_ (by kernel_rfl) (grown_drew _) ?_ ?_
      ·
       refine yll_cons rfl (fun w9231 hi9232 => ?_) ?_
       ·
        have hb9233 := low0 hb9058 hi9232
        refine wpo_move (v := .slice b cs.length e) e9062 rfl ?_
        exact wpo_nil ⟨rfl, hi9232⟩
       refine yll_cons rfl (fun w9234 hi9235 => ?_) ?_
       ·
        have hb9236 := low0 hb9058 hi9235
        refine wpo_move (v := .int .i64 (k : Int)) e9060 rfl ?_
        exact wpo_nil ⟨rfl, hi9235⟩
       refine yll_cons rfl (fun w9237 hi9238 => ?_) ?_
       ·
        have hb9239 := low0 hb9058 hi9238
        refine wpo_indexE es_69 rfl rfl ha9227 ho9228 (by omega) (by omega) rfl ?_
        exact wpo_nil ⟨rfl, hi9238⟩
       refine yll_cons rfl (fun w9240 hi9241 => ?_) ?_
       ·
        have hb9242 := low0 hb9058 hi9241
        refine wpo_fieldAddr (o' := o9226) fo_76_0 rfl rfl rfl ?_
        exact wpo_nil ⟨rfl, hi9241⟩
       refine yll_cons rfl (fun w9243 hi9244 => ?_) ?_
       ·
        have hb9245 := low0 hb9058 hi9244
        refine wpo_load1 (v := .int .i64 ((cAt cs k).kind)) ot_3 rfl ((range_low hr9229 hi9244) 0 _ rfl) rfl ?_
        exact wpo_nil ⟨rfl, hi9244⟩
       refine yll_cons rfl (fun w9246 hi9247 => ?_) ?_
       ·
        have hb9248 := low0 hb9058 hi9247
        refine wpo_eql (q := decide ((cAt cs k).kind = 9)) rfl rfl rfl rfl ?_
        exact wpo_nil ⟨rfl, hi9247⟩
       refine yll_cons rfl (fun w9249 hi9250 => ?_) ?_
       ·
        have hb9251 := low0 hb9058 hi9250
        refine wpo_move (v := .bool (decide ((cAt cs k).kind = 9))) rfl rfl ?_
        exact wpo_nil ⟨rfl, hi9250⟩
       refine yll_cons rfl (fun w9252 hi9253 => ?_) ?_
       ·
        have hb9254 := low0 hb9058 hi9253
        refine wpo_pass rfl rfl rfl h9106 rfl ?_
        exact wpo_nil ⟨rfl, hi9253⟩
       refine yll_cons rfl (fun w9255 hi9256 => ?_) ?_
       ·
        have hb9257 := low0 hb9058 hi9256
        refine wpo_pass rfl rfl rfl h9106 rfl ?_
        exact wpo_nil ⟨rfl, hi9256⟩
       refine yll_cons rfl (fun w9258 hi9259 => ?_) ?_
       ·
        have hb9260 := low0 hb9058 hi9259
        refine wpo_pass rfl rfl rfl h9106 rfl ?_
        exact wpo_nil ⟨rfl, hi9259⟩
       refine yll_cons rfl (fun w9261 hi9262 => ?_) ?_
       ·
        have hb9263 := low0 hb9058 hi9262
        refine wpo_pass rfl rfl rfl h9106 rfl ?_
        exact wpo_nil ⟨rfl, hi9262⟩
       refine yll_cons rfl (fun w9264 hi9265 => ?_) ?_
       ·
        have hb9266 := low0 hb9058 hi9265
        refine wpo_pass rfl rfl rfl h9106 rfl ?_
        exact wpo_nil ⟨rfl, hi9265⟩
       refine yll_cons rfl (fun w9267 hi9268 => ?_) ?_
       ·
        have hb9269 := low0 hb9058 hi9268
        refine wpo_pass rfl rfl rfl h9106 rfl ?_
        exact wpo_nil ⟨rfl, hi9268⟩
       refine yll_cons rfl (fun w9270 hi9271 => ?_) ?_
       ·
        have hb9272 := low0 hb9058 hi9271
        refine wpo_pass rfl rfl rfl h9106 rfl ?_
        exact wpo_nil ⟨rfl, hi9271⟩
       refine yll_cons rfl (fun w9273 hi9274 => ?_) ?_
       ·
        have hb9275 := low0 hb9058 hi9274
        refine wpo_pass rfl rfl rfl h9106 rfl ?_
        exact wpo_nil ⟨rfl, hi9274⟩
       refine yll_cons rfl (fun w9276 hi9277 => ?_) ?_
       ·
        have hb9278 := low0 hb9058 hi9277
        refine wpo_pass rfl rfl rfl h9106 rfl ?_
        exact wpo_nil ⟨rfl, hi9277⟩
       refine yll_cons rfl (fun w9279 hi9280 => ?_) ?_
       ·
        have hb9281 := low0 hb9058 hi9280
        refine wpo_pass rfl rfl rfl h9106 rfl ?_
        exact wpo_nil ⟨rfl, hi9280⟩
       refine yll_cons rfl (fun w9282 hi9283 => ?_) ?_
       ·
        have hb9284 := low0 hb9058 hi9283
        refine wpo_pass rfl rfl rfl h9106 rfl ?_
        exact wpo_nil ⟨rfl, hi9283⟩
       exact yll_nil
      ·
       intro w9285 hi9286
       have hb9287 := low0 hb9058 hi9286
       refine wpo_pass rfl rfl rfl h9106 rfl ?_
       refine wpo_pass rfl rfl rfl h9106 rfl ?_
       refine wpo_pickf (v := .bool false) rfl h9106 rfl rfl ?_
       exact wpo_nil (thn_n ⟨⟨e9061, e9062, e9063, e9060, (congrArg Value.bool (by first | (simp only [h9045, h9046, h9047, h9048, h9049, h9050, h9053, h9054, h9065, h9106, b0, b1, b2, b3, b4, b5, b6, b7, b8, b9]; done) | simp [h9045, h9046, h9047, h9048, h9049, h9050, h9053, h9054, h9065, h9106]))⟩, hi9286⟩)
    ·
     rintro f9288 w9289 ⟨⟨e9290, e9291, e9292, e9293, e9294⟩, hg9295⟩
     have hb9296 := low0 hb9058 hg9295
     refine wpf_cond e9294 (fun h9297 => ?_) (fun h9297 => ?_)
     ·
      have h9298 := and_l h9297
      have h9299 := of_decide_eq_true h9298
      have h9300 := and_r h9297
      have h9301 := nt_t h9300
      refine wpf_seq_region ?_
      refine wpo_assign (v := .bool false) rfl rfl ?_
      refine wpo_nil ?_
      refine wpf_ret ?_
      refine blk_r ?_
      refine thn_r ?_
      refine thn_r ?_
      refine blk_r ?_
      refine thn_r ?_
      refine ⟨.bool false, res1 rfl rfl, ?_, hb9296⟩
      exact congrArg Value.bool (quiet_no2 (k := k) (cAt_get (by omega)) (by unfold quietOf; rw [← low_m, h9297]; rfl)).symm
     ·
      refine wpf_skip ?_
      refine blk_n ?_
      refine thn_n ?_
      refine wpf_region ?_
      refine wpo_move (v := .int .i64 (k : Int)) e9293 rfl ?_
      refine wpo_add (c := (k : Int) + 1) rfl rfl (by omega) (by omega) (by omega) rfl ?_
      refine wpo_assign (v := .int .i64 ((k : Int) + 1)) rfl rfl ?_
      refine wpo_nil ?_
      refine thn_n ?_
      have k9302 := (k9064.grown0 hg9295)
      exact ⟨cs.length - (k + 1), by omega, (k + 1), rfl, (by omega), (take_all_succ (p := quietOf (tabT ms) l) hall (cAt_get (by omega)) (by unfold quietOf; rw [← low_m, h9297]; rfl)), rfl, e9290, e9291, e9292, hb9296, k9302⟩
   ·
    have h9303 := of_decide_eq_false h9065
    refine wpf_exit ?_
    refine thn_e ?_
    refine thn_e ?_
    refine blk_e ?_
    refine thn_n ?_
    refine wpf_seq_region ?_
    refine wpo_assign (v := .bool true) rfl rfl ?_
    refine wpo_nil ?_
    refine wpf_ret ?_
    refine ⟨.bool true, res1 rfl rfl, ?_, hb9058⟩
    exact congrArg Value.bool (quiet_yes (script_s.trans h9045) hall (by omega)).symm

theorem szCallS_c (m : Int) (w : World) (xs : List Cl) (a : Option Addr) (c : Nat) (hn : xs.length ≤ 9223372036854775807) (hm : 0 ≤ m ∧ m ≤ 1048576) : CallsR Try.prog 40 #[.slice a xs.length c, .int .i64 m] w (fun v w' => ∃ n : Int, v = .int .i64 n ∧ (0 ≤ n → (xs.length : Int) + n ≤ m) ∧ -1 ≤ n ∧ n ≤ m ∧ w.grownBy w' none) := by
 refine calls_of_wpf (n := 12) Try.func40 rfl Try.ntmps40 rfl ?_
 have hb0 := World.grownBy.refl w none
 refine wpf_seq_region ?_
 refine wpo_assign (v := .int .i64 0) rfl rfl ?_
 refine wpo_nil ?_
 refine wpf_seq_region ?_
 refine wpo_move (v := .int .i64 m) rfl rfl ?_
 refine wpo_move (v := .slice a xs.length c) rfl rfl ?_
 refine wpo_len (by kernel_rfl) rfl rfl ?_
 refine wpo_sub (c := m - (xs.length : Int)) rfl rfl (by omega) (by omega) (by omega) rfl ?_
 refine wpo_assign (v := .int .i64 (m - (xs.length : Int))) rfl rfl ?_
 refine wpo_nil ?_
 refine wpf_seq ?_
 refine wpf_seq_region ?_
 refine wpo_move (v := .int .i64 (m - (xs.length : Int))) rfl rfl ?_
 refine wpo_lss (q := decide (m - (xs.length : Int) < 0)) rfl rfl rfl rfl ?_
 refine wpo_nil ?_
 refine wpf_cond rfl (fun h9304 => ?_) (fun h9304 => ?_)
 ·
  have h9305 := of_decide_eq_true h9304
  refine wpf_seq_region ?_
  refine wpo_assign (v := .int .i64 (-1)) rfl rfl ?_
  refine wpo_nil ?_
  refine wpf_ret ?_
  refine thn_r ?_
  refine ⟨.int .i64 (-1), res1 rfl rfl, (-1), rfl, by omega, by omega, by omega, hb0⟩
 ·
  have h9306 := of_decide_eq_false h9304
  refine wpf_skip ?_
  refine thn_n ?_
  refine wpf_seq_region ?_
  refine wpo_move (v := .int .i64 (m - (xs.length : Int))) rfl rfl ?_
  refine wpo_assign (v := .int .i64 (m - (xs.length : Int))) rfl rfl ?_
  refine wpo_nil ?_
  refine wpf_ret ?_
  refine ⟨.int .i64 (m - (xs.length : Int)), res1 rfl rfl, (m - (xs.length : Int)), rfl, by omega, by omega, by omega, hb0⟩

theorem toCall_c (q : Cl) (w : World) : CallsR Try.prog 92 #[.agg #[.int .i64 q.kind, .int .i64 q.run, .int .i64 q.a, .int .i64 q.b, .int .i64 q.n]] w (fun v w' => v = .agg #[.int .i64 q.kind, .int .i64 q.run, .int .i64 q.a, .int .i64 q.b, .int .i64 q.n] ∧ w.grownBy w' none) := by
 refine calls_of_wpf (n := 20) Try.func92 rfl Try.ntmps92 rfl ?_
 have hb0 := World.grownBy.refl w none
 refine wpf_seq_region ?_
 refine wpo_box (v := .agg #[.int .i64 q.kind, .int .i64 q.run, .int .i64 q.a, .int .i64 q.b, .int .i64 q.n]) (cs := #[.int .i64 q.kind, .int .i64 q.run, .int .i64 q.a, .int .i64 q.b, .int .i64 q.n]) rfl rfl rfl ?_
 intro B9307 w9308 hN9309
 have hlB9307 := hN_ge hN9309 hb0
 have hb9310 := low0 hb0 hN9309.grw
 refine wpo_alloc (cs := #[.int .i64 0, .int .i64 0, .int .i64 0, .int .i64 0, .int .i64 0]) zt_76 rfl rfl ?_
 intro B9311 w9312 hN9313
 have hlB9311 := hN_ge hN9313 hb9310
 have lt_B9307_B9311 := hN_gtl hN9313 (hN9309.blk).lt
 have hb9314 := low0 hb9310 hN9313.grw
 refine wpo_nil ?_
 refine wpf_seq_region ?_
 refine wpo_alloc (cs := #[.int .i64 0, .int .i64 0, .int .i64 0, .int .i64 0, .int .i64 0]) zt_76 rfl rfl ?_
 intro B9315 w9316 hN9317
 have hlB9315 := hN_ge hN9317 hb9314
 have k9318 := (hN9309.blk.grown0 hN9313.grw)
 have lt_B9307_B9315 := hN_gtl hN9317 (k9318).lt
 have lt_B9311_B9315 := hN_gtl hN9317 (hN9313.blk).lt
 have hb9319 := low0 hb9314 hN9317.grw
 refine wpo_nil ?_
 refine wpf_seq_region ?_
 refine wpo_fieldAddr (o' := 0) fo_115_0 rfl rfl rfl ?_
 have k9320 := (k9318.grown0 hN9317.grw)
 refine wpo_load1 (v := .int .i64 q.kind) ot_3 rfl (k9320.cell rfl) rfl ?_
 refine wpo_fieldAddr (o' := 0) fo_76_0 rfl rfl rfl ?_
 refine wpo_store1 (v := .int .i64 q.kind) (cs' := #[.int .i64 q.kind, .int .i64 0, .int .i64 0, .int .i64 0, .int .i64 0]) ot_3 rfl rfl rfl hN9317.blk (Nat.le_of_ble_eq_true rfl) rfl ?_
 intro w9321 hS9322
 have hb9323 := low1 hb9319 hS9322.grw (by omega)
 refine wpo_nil ?_
 refine wpf_seq_region ?_
 refine wpo_fieldAddr (o' := 1) fo_115_1 rfl rfl rfl ?_
 have k9324 := (k9320.grown hS9322.grw (some_ne (by omega)))
 refine wpo_load1 (v := .int .i64 q.run) ot_3 rfl (k9324.cell rfl) rfl ?_
 refine wpo_fieldAddr (o' := 1) fo_76_1 rfl rfl rfl ?_
 refine wpo_store1 (v := .int .i64 q.run) (cs' := #[.int .i64 q.kind, .int .i64 q.run, .int .i64 0, .int .i64 0, .int .i64 0]) ot_3 rfl rfl rfl hS9322.blk (Nat.le_of_ble_eq_true rfl) rfl ?_
 intro w9325 hS9326
 have hb9327 := low1 hb9323 hS9326.grw (by omega)
 refine wpo_nil ?_
 refine wpf_seq_region ?_
 refine wpo_fieldAddr (o' := 2) fo_115_2 rfl rfl rfl ?_
 have k9328 := (k9324.grown hS9326.grw (some_ne (by omega)))
 refine wpo_load1 (v := .int .i64 q.a) ot_3 rfl (k9328.cell rfl) rfl ?_
 refine wpo_fieldAddr (o' := 2) fo_76_2 rfl rfl rfl ?_
 refine wpo_store1 (v := .int .i64 q.a) (cs' := #[.int .i64 q.kind, .int .i64 q.run, .int .i64 q.a, .int .i64 0, .int .i64 0]) ot_3 rfl rfl rfl hS9326.blk (Nat.le_of_ble_eq_true rfl) rfl ?_
 intro w9329 hS9330
 have hb9331 := low1 hb9327 hS9330.grw (by omega)
 refine wpo_nil ?_
 refine wpf_seq_region ?_
 refine wpo_fieldAddr (o' := 3) fo_115_3 rfl rfl rfl ?_
 have k9332 := (k9328.grown hS9330.grw (some_ne (by omega)))
 refine wpo_load1 (v := .int .i64 q.b) ot_3 rfl (k9332.cell rfl) rfl ?_
 refine wpo_fieldAddr (o' := 3) fo_76_3 rfl rfl rfl ?_
 refine wpo_store1 (v := .int .i64 q.b) (cs' := #[.int .i64 q.kind, .int .i64 q.run, .int .i64 q.a, .int .i64 q.b, .int .i64 0]) ot_3 rfl rfl rfl hS9330.blk (Nat.le_of_ble_eq_true rfl) rfl ?_
 intro w9333 hS9334
 have hb9335 := low1 hb9331 hS9334.grw (by omega)
 refine wpo_nil ?_
 refine wpf_seq_region ?_
 refine wpo_fieldAddr (o' := 4) fo_115_4 rfl rfl rfl ?_
 have k9336 := (k9332.grown hS9334.grw (some_ne (by omega)))
 refine wpo_load1 (v := .int .i64 q.n) ot_3 rfl (k9336.cell rfl) rfl ?_
 refine wpo_fieldAddr (o' := 4) fo_76_4 rfl rfl rfl ?_
 refine wpo_store1 (v := .int .i64 q.n) (cs' := #[.int .i64 q.kind, .int .i64 q.run, .int .i64 q.a, .int .i64 q.b, .int .i64 q.n]) ot_3 rfl rfl rfl hS9334.blk (Nat.le_of_ble_eq_true rfl) rfl ?_
 intro w9337 hS9338
 have hb9339 := low1 hb9335 hS9338.grw (by omega)
 refine wpo_nil ?_
 refine wpf_seq_region ?_
 refine wpo_loadn (vs := [.int .i64 q.kind, .int .i64 q.run, .int .i64 q.a, .int .i64 q.b, .int .i64 q.n]) rt_76 rfl rfl (hS9338.blk.rangeL 0 5 rfl) rfl ?_
 have k9340 := ((((((hN9313.blk.grown0 hN9317.grw).grown hS9322.grw (some_ne (by omega))).grown hS9326.grw (some_ne (by omega))).grown hS9330.grw (some_ne (by omega))).grown hS9334.grw (some_ne (by omega))).grown hS9338.grw (some_ne (by omega)))
 refine wpo_storen (vs := [.int .i64 q.kind, .int .i64 q.run, .int .i64 q.a, .int .i64 q.b, .int .i64 q.n]) (cs' := #[.int .i64 q.kind, .int .i64 q.run, .int .i64 q.a, .int .i64 q.b, .int .i64 q.n]) rt_76 rfl rfl rfl (by simp [Value.oneCell']) k9340 (Nat.le_of_ble_eq_true rfl) rfl ?_
 intro w9341 hS9342
 have hb9343 := low1 hb9339 hS9342.grw (by omega)
 refine wpo_nil ?_
 refine wpf_ret ?_
 refine ⟨.agg #[.int .i64 q.kind, .int .i64 q.run, .int .i64 q.a, .int .i64 q.b, .int .i64 q.n], resC rfl (resCell_mk (vs := [.int .i64 q.kind, .int .i64 q.run, .int .i64 q.a, .int .i64 q.b, .int .i64 q.n]) rt_76 rfl rfl (hS9342.blk.rangeL 0 5 rfl)), ?_, hb9343⟩
 rfl

theorem toCallS_c (w : World) (cs : List Cl) (b : Option Addr) (e : Nat) (hs : SlAt w b 5 (cs.map Cl.cells)) (hm : cs.length ≤ 1048576) : CallsR Try.prog 42 #[.slice b cs.length e] w (fun v w' => ∃ B : Nat, v = .slice (some ⟨B, 0, none⟩) cs.length cs.length ∧ w.heap.size ≤ B ∧ Blk w' B 76 (cs.flatMap Cl.cells).toArray ∧ w.grownBy w' none) := by
 refine calls_of_wpf (n := 23) Try.func42 rfl Try.ntmps42 rfl ?_
 have hb0 := World.grownBy.refl w none
 refine wpf_seq_region ?_
 refine wpo_assign (v := .slice none 0 0) rfl rfl ?_
 refine wpo_nil ?_
 refine wpf_seq_region ?_
 refine wpo_move (v := .slice b cs.length e) rfl rfl ?_
 refine wpo_len (by kernel_rfl) rfl rfl ?_
 refine wpo_make (g := Cl.cells) (z := Cl.zero) (c := cs.length) mk_69 rfl wide_cl (by omega) rfl rfl (by omega) (by omega) rfl ?_
 intro B9344 w9345 hN9346
 have hlB9344 := hN_ge hN9346 hb0
 have hb9347 := low0 hb0 hN9346.grw
 refine wpo_assign (v := .slice (some ⟨B9344, 0, none⟩) cs.length cs.length) rfl rfl ?_
 refine wpo_nil ?_
 refine wpf_seq ?_
 refine wpf_seq_region ?_
 refine wpo_assign (v := .int .i64 0) rfl rfl ?_
 refine wpo_nil ?_
 refine wpf_block ?_
 refine wpf_loopN (fun mm f' w' => ∃ (k : Nat), mm = cs.length - k ∧ k ≤ cs.length ∧ (fill cs Cl.zero k).length = cs.length ∧ f' 4 = .int .i64 (k : Int) ∧ f' 0 = .slice b cs.length e ∧ f' 2 = .slice none 0 0 ∧ f' 3 = .slice (some ⟨B9344, 0, none⟩) cs.length cs.length ∧ w.grownBy w' none ∧ Blk w' B9344 76 ((fill cs Cl.zero k).flatMap Cl.cells).toArray) (cs.length - 0) ⟨0, rfl, (Nat.zero_le _), (fill_len (Nat.zero_le _)), rfl, rfl, rfl, rfl, hb9347, (by rw [fill_zero]; exact hN9346.blk)⟩ ?_
 rintro mm f9348 w9349 ⟨k, hm9351, hk, hfl, e9352, e9353, e9354, e9355, hb9350, k9356⟩
 refine wpf_seq ?_
 refine wpf_seq_region ?_
 refine wpo_move (v := .int .i64 (k : Int)) e9352 rfl ?_
 refine wpo_move (v := .slice b cs.length e) e9353 rfl ?_
 refine wpo_len (by kernel_rfl) rfl rfl ?_
 refine wpo_lss (q := decide ((k : Int) < (cs.length : Int))) rfl rfl rfl rfl ?_
 refine wpo_nil ?_
 refine wpf_cond rfl (fun h9357 => ?_) (fun h9357 => ?_)
 ·
  have h9358 := of_decide_eq_true h9357
  refine wpf_skip ?_
  refine thn_n ?_
  refine wpf_seq ?_
  refine wpf_block ?_
  refine wpf_region ?_
  refine wpo_move (v := .slice (some ⟨B9344, 0, none⟩) cs.length cs.length) e9355 rfl ?_
  refine wpo_move (v := .int .i64 (k : Int)) e9352 rfl ?_
  refine wpo_move (v := .slice b cs.length e) e9353 rfl ?_
  refine wpo_move (v := .int .i64 (k : Int)) e9352 rfl ?_
  obtain ⟨b9361, q9362, o9363, ha9364, ho9365, hr9366⟩ := SlAt.at (SlAt.low hs hb9350) (map_get (cAt_get (show k < cs.length by omega)))
  refine wpo_indexE es_66 rfl rfl ha9364 ho9365 (by omega) (by omega) rfl ?_
  refine wpo_loadn (vs := [.int .i64 ((cAt cs k).kind), .int .i64 ((cAt cs k).run), .int .i64 ((cAt cs k).a), .int .i64 ((cAt cs k).b), .int .i64 ((cAt cs k).n)]) rt_115 rfl rfl (range_sub hr9366 0 5 rfl) rfl ?_
  refine wpo_call (vs := [.agg #[.int .i64 ((cAt cs k).kind), .int .i64 ((cAt cs k).run), .int .i64 ((cAt cs k).a), .int .i64 ((cAt cs k).b), .int .i64 ((cAt cs k).n)]]) gf_92 (args_cons rfl args_nil) rfl (toCall_c (cAt cs k) _) ?_
  rintro _ w9367 ⟨rfl, hg9368⟩
  have hb9369 := low0 hb9350 hg9368
  refine wpo_indexAddr (o' := k * 5) es_69 rfl rfl (by omega) (by omega) (by omega) rfl ?_
  have k9370 := (k9356.grown0 hg9368)
  refine wpo_storen (vs := [.int .i64 ((cAt cs k).kind), .int .i64 ((cAt cs k).run), .int .i64 ((cAt cs k).a), .int .i64 ((cAt cs k).b), .int .i64 ((cAt cs k).n)]) (cs' := (((fill cs Cl.zero k).set k (cAt cs k)).flatMap Cl.cells).toArray) rt_76 rfl rfl rfl (by simp [Value.oneCell']) k9370 (rows_le wide_cl (by omega)) (rows_setA wide_cl (by omega) (cAt cs k)) ?_
  intro w9371 hS9372
  have hb9373 := low1 hb9369 hS9372.grw (by omega)
  refine wpo_nil ?_
  refine blk_n ?_
  refine thn_n ?_
  refine wpf_region ?_
  refine wpo_move (v := .int .i64 (k : Int)) e9352 rfl ?_
  refine wpo_add (c := (k : Int) + 1) rfl rfl (by omega) (by omega) (by omega) rfl ?_
  refine wpo_assign (v := .int .i64 ((k : Int) + 1)) rfl rfl ?_
  refine wpo_nil ?_
  refine thn_n ?_
  exact ⟨cs.length - (k + 1), by omega, (k + 1), rfl, (by omega), (fill_len (by omega)), rfl, e9353, e9354, e9355, hb9373, (by have kk := hS9372.blk; rw [fill_set (cAt_get (show k < cs.length by omega))] at kk; exact kk)⟩
 ·
  have h9374 := of_decide_eq_false h9357
  refine wpf_exit ?_
  refine thn_e ?_
  refine thn_e ?_
  refine blk_e ?_
  refine thn_n ?_
  refine wpf_seq_region ?_
  refine wpo_move (v := .slice (some ⟨B9344, 0, none⟩) cs.length cs.length) e9355 rfl ?_
  refine wpo_assign (v := .slice (some ⟨B9344, 0, none⟩) cs.length cs.length) rfl rfl ?_
  refine wpo_nil ?_
  refine wpf_ret ?_
  refine ⟨.slice (some ⟨B9344, 0, none⟩) cs.length cs.length, res1 rfl rfl, B9344, rfl, hlB9344, ?_, hb9350⟩
  have kk := k9356
  rw [fill_all (by omega)] at kk
  exact kk

theorem eqCall_c (a b : Cl) (w : World) : CallsR Try.prog 95 #[.agg #[.int .i64 a.kind, .int .i64 a.run, .int .i64 a.a, .int .i64 a.b, .int .i64 a.n], .agg #[.int .i64 b.kind, .int .i64 b.run, .int .i64 b.a, .int .i64 b.b, .int .i64 b.n]] w (fun v w' => v = .bool (decide (a = b)) ∧ w.grownBy w' none) := by
 refine calls_of_wpf (n := 30) Try.func95 rfl Try.ntmps95 rfl ?_
 have hb0 := World.grownBy.refl w none
 refine wpf_seq_region ?_
 refine wpo_box (v := .agg #[.int .i64 a.kind, .int .i64 a.run, .int .i64 a.a, .int .i64 a.b, .int .i64 a.n]) (cs := #[.int .i64 a.kind, .int .i64 a.run, .int .i64 a.a, .int .i64 a.b, .int .i64 a.n]) rfl rfl rfl ?_
 intro B9375 w9376 hN9377
 have hlB9375 := hN_ge hN9377 hb0
 have hb9378 := low0 hb0 hN9377.grw
 refine wpo_box (v := .agg #[.int .i64 b.kind, .int .i64 b.run, .int .i64 b.a, .int .i64 b.b, .int .i64 b.n]) (cs := #[.int .i64 b.kind, .int .i64 b.run, .int .i64 b.a, .int .i64 b.b, .int .i64 b.n]) rfl rfl rfl ?_
 intro B9379 w9380 hN9381
 have hlB9379 := hN_ge hN9381 hb9378
 have lt_B9375_B9379 := hN_gtl hN9381 (hN9377.blk).lt
 have hb9382 := low0 hb9378 hN9381.grw
 refine wpo_assign (v := .bool false) rfl rfl ?_
 refine wpo_nil ?_
 refine wpf_seq ?_
 refine wpf_seq_region ?_
 refine wpo_fieldAddr (o' := 0) fo_76_0 rfl rfl rfl ?_
 have k9383 := (hN9377.blk.grown0 hN9381.grw)
 refine wpo_load1 (v := .int .i64 a.kind) ot_3 rfl (k9383.cell rfl) rfl ?_
 refine wpo_fieldAddr (o' := 0) fo_76_0 rfl rfl rfl ?_
 refine wpo_load1 (v := .int .i64 b.kind) ot_3 rfl (hN9381.blk.cell rfl) rfl ?_
 refine wpo_neq (q := !(decide (a.kind = b.kind))) rfl rfl rfl rfl ?_
 refine wpo_nil ?_
 refine wpf_cond rfl (fun h9384 => ?_) (fun h9384 => ?_)
 ·
  have h9385 := nt_t h9384
  have h9386 := of_decide_eq_false h9385
  refine wpf_seq_region ?_
  refine wpo_assign (v := .bool false) rfl rfl ?_
  refine wpo_nil ?_
  refine wpf_ret ?_
  refine thn_r ?_
  refine ⟨.bool false, res1 rfl rfl, ?_, hb9382⟩
  obtain ⟨a1, a2, a3, a4, a5⟩ := a
  obtain ⟨b1, b2, b3, b4, b5⟩ := b
  simp_all
 ·
  have h9387 := nt_f h9384
  have h9388 := of_decide_eq_true h9387
  refine wpf_skip ?_
  refine thn_n ?_
  refine wpf_seq ?_
  refine wpf_seq_region ?_
  refine wpo_fieldAddr (o' := 1) fo_76_1 rfl rfl rfl ?_
  refine wpo_load1 (v := .int .i64 a.run) ot_3 rfl (k9383.cell rfl) rfl ?_
  refine wpo_fieldAddr (o' := 1) fo_76_1 rfl rfl rfl ?_
  refine wpo_load1 (v := .int .i64 b.run) ot_3 rfl (hN9381.blk.cell rfl) rfl ?_
  refine wpo_neq (q := !(decide (a.run = b.run))) rfl rfl rfl rfl ?_
  refine wpo_nil ?_
  refine wpf_cond rfl (fun h9389 => ?_) (fun h9389 => ?_)
  ·
   have h9390 := nt_t h9389
   have h9391 := of_decide_eq_false h9390
   refine wpf_seq_region ?_
   refine wpo_assign (v := .bool false) rfl rfl ?_
   refine wpo_nil ?_
   refine wpf_ret ?_
   refine thn_r ?_
   refine ⟨.bool false, res1 rfl rfl, ?_, hb9382⟩
   obtain ⟨a1, a2, a3, a4, a5⟩ := a
   obtain ⟨b1, b2, b3, b4, b5⟩ := b
   simp_all
  ·
   have h9392 := nt_f h9389
   have h9393 := of_decide_eq_true h9392
   refine wpf_skip ?_
   refine thn_n ?_
   refine wpf_seq ?_
   refine wpf_seq_region ?_
   refine wpo_fieldAddr (o' := 2) fo_76_2 rfl rfl rfl ?_
   refine wpo_load1 (v := .int .i64 a.a) ot_3 rfl (k9383.cell rfl) rfl ?_
   refine wpo_fieldAddr (o' := 2) fo_76_2 rfl rfl rfl ?_
   refine wpo_load1 (v := .int .i64 b.a) ot_3 rfl (hN9381.blk.cell rfl) rfl ?_
   refine wpo_neq (q := !(decide (a.a = b.a))) rfl rfl rfl rfl ?_
   refine wpo_nil ?_
   refine wpf_cond rfl (fun h9394 => ?_) (fun h9394 => ?_)
   ·
    have h9395 := nt_t h9394
    have h9396 := of_decide_eq_false h9395
    refine wpf_seq_region ?_
    refine wpo_assign (v := .bool false) rfl rfl ?_
    refine wpo_nil ?_
    refine wpf_ret ?_
    refine thn_r ?_
    refine ⟨.bool false, res1 rfl rfl, ?_, hb9382⟩
    obtain ⟨a1, a2, a3, a4, a5⟩ := a
    obtain ⟨b1, b2, b3, b4, b5⟩ := b
    simp_all
   ·
    have h9397 := nt_f h9394
    have h9398 := of_decide_eq_true h9397
    refine wpf_skip ?_
    refine thn_n ?_
    refine wpf_seq ?_
    refine wpf_seq_region ?_
    refine wpo_fieldAddr (o' := 3) fo_76_3 rfl rfl rfl ?_
    refine wpo_load1 (v := .int .i64 a.b) ot_3 rfl (k9383.cell rfl) rfl ?_
    refine wpo_fieldAddr (o' := 3) fo_76_3 rfl rfl rfl ?_
    refine wpo_load1 (v := .int .i64 b.b) ot_3 rfl (hN9381.blk.cell rfl) rfl ?_
    refine wpo_neq (q := !(decide (a.b = b.b))) rfl rfl rfl rfl ?_
    refine wpo_nil ?_
    refine wpf_cond rfl (fun h9399 => ?_) (fun h9399 => ?_)
    ·
     have h9400 := nt_t h9399
     have h9401 := of_decide_eq_false h9400
     refine wpf_seq_region ?_
     refine wpo_assign (v := .bool false) rfl rfl ?_
     refine wpo_nil ?_
     refine wpf_ret ?_
     refine thn_r ?_
     refine ⟨.bool false, res1 rfl rfl, ?_, hb9382⟩
     obtain ⟨a1, a2, a3, a4, a5⟩ := a
     obtain ⟨b1, b2, b3, b4, b5⟩ := b
     simp_all
    ·
     have h9402 := nt_f h9399
     have h9403 := of_decide_eq_true h9402
     refine wpf_skip ?_
     refine thn_n ?_
     refine wpf_seq ?_
     refine wpf_seq_region ?_
     refine wpo_fieldAddr (o' := 4) fo_76_4 rfl rfl rfl ?_
     refine wpo_load1 (v := .int .i64 a.n) ot_3 rfl (k9383.cell rfl) rfl ?_
     refine wpo_fieldAddr (o' := 4) fo_76_4 rfl rfl rfl ?_
     refine wpo_load1 (v := .int .i64 b.n) ot_3 rfl (hN9381.blk.cell rfl) rfl ?_
     refine wpo_neq (q := !(decide (a.n = b.n))) rfl rfl rfl rfl ?_
     refine wpo_nil ?_
     refine wpf_cond rfl (fun h9404 => ?_) (fun h9404 => ?_)
     ·
      have h9405 := nt_t h9404
      have h9406 := of_decide_eq_false h9405
      refine wpf_seq_region ?_
      refine wpo_assign (v := .bool false) rfl rfl ?_
      refine wpo_nil ?_
      refine wpf_ret ?_
      refine thn_r ?_
      refine ⟨.bool false, res1 rfl rfl, ?_, hb9382⟩
      obtain ⟨a1, a2, a3, a4, a5⟩ := a
      obtain ⟨b1, b2, b3, b4, b5⟩ := b
      simp_all
     ·
      have h9407 := nt_f h9404
      have h9408 := of_decide_eq_true h9407
      refine wpf_skip ?_
      refine thn_n ?_
      refine wpf_seq_region ?_
      refine wpo_assign (v := .bool true) rfl rfl ?_
      refine wpo_nil ?_
      refine wpf_ret ?_
      refine ⟨.bool true, res1 rfl rfl, ?_, hb9382⟩
      obtain ⟨a1, a2, a3, a4, a5⟩ := a
      obtain ⟨b1, b2, b3, b4, b5⟩ := b
      simp_all

theorem eqCallS_c (w : World) (cs : List Cl) (b : Option Addr) (e : Nat) (hs : SlAt w b 5 (cs.map Cl.cells)) (hm : cs.length ≤ 1048576) (ds : List Cl) (d : Option Addr) (e2 : Nat) (hd : SlAt w d 5 (ds.map Cl.cells)) (hm2 : ds.length ≤ 1048576) : CallsR Try.prog 44 #[.slice b cs.length e, .slice d ds.length e2] w (fun v w' => v = .bool (decide (cs = ds)) ∧ w.grownBy w' none) := by
 refine calls_of_wpf (n := 27) Try.func44 rfl Try.ntmps44 rfl ?_
 have hb0 := World.grownBy.refl w none
 refine wpf_seq_region ?_
 refine wpo_assign (v := .bool false) rfl rfl ?_
 refine wpo_nil ?_
 refine wpf_seq ?_
 refine wpf_seq_region ?_
 refine wpo_move (v := .slice b cs.length e) rfl rfl ?_
 refine wpo_len (by kernel_rfl) rfl rfl ?_
 refine wpo_move (v := .slice d ds.length e2) rfl rfl ?_
 refine wpo_len (by kernel_rfl) rfl rfl ?_
 refine wpo_neq (q := !(decide ((cs.length : Int) = (ds.length : Int)))) rfl rfl rfl rfl ?_
 refine wpo_nil ?_
 refine wpf_cond rfl (fun h9409 => ?_) (fun h9409 => ?_)
 ·
  have h9410 := nt_t h9409
  have h9411 := of_decide_eq_false h9410
  refine wpf_seq_region ?_
  refine wpo_assign (v := .bool false) rfl rfl ?_
  refine wpo_nil ?_
  refine wpf_ret ?_
  refine thn_r ?_
  refine ⟨.bool false, res1 rfl rfl, ?_, hb0⟩
  exact congrArg Value.bool (decide_eq_false (fun h => by have := congrArg List.length h; omega)).symm
 ·
  have h9412 := nt_f h9409
  have h9413 := of_decide_eq_true h9412
  refine wpf_skip ?_
  refine thn_n ?_
  refine wpf_seq ?_
  refine wpf_seq_region ?_
  refine wpo_assign (v := .int .i64 0) rfl rfl ?_
  refine wpo_nil ?_
  refine wpf_block ?_
  refine wpf_loopN (fun mm f' w' => ∃ (k : Nat), mm = cs.length - k ∧ k ≤ cs.length ∧ cs.take k = ds.take k ∧ f' 5 = .int .i64 (k : Int) ∧ f' 0 = .slice b cs.length e ∧ f' 1 = .slice d ds.length e2 ∧ w.grownBy w' none) (cs.length - 0) ⟨0, rfl, (Nat.zero_le _), rfl, rfl, rfl, rfl, hb0⟩ ?_
  rintro mm f9414 w9415 ⟨k, hm9417, hk, ha, e9418, e9419, e9420, hb9416⟩
  refine wpf_seq ?_
  refine wpf_seq_region ?_
  refine wpo_move (v := .int .i64 (k : Int)) e9418 rfl ?_
  refine wpo_move (v := .slice b cs.length e) e9419 rfl ?_
  refine wpo_len (by kernel_rfl) rfl rfl ?_
  refine wpo_lss (q := decide ((k : Int) < (cs.length : Int))) rfl rfl rfl rfl ?_
  refine wpo_nil ?_
  refine wpf_cond rfl (fun h9421 => ?_) (fun h9421 => ?_)
  ·
   have h9422 := of_decide_eq_true h9421
   refine wpf_skip ?_
   refine thn_n ?_
   refine wpf_seq ?_
   refine wpf_block ?_
   refine wpf_seq ?_
   obtain ⟨b9463, q9464, o9465, ha9466, ho9467, hr9468⟩ := SlAt.at (SlAt.low hs hb9416) (map_get (cAt_get (show k < cs.length by omega)))
   obtain ⟨b9471, q9472, o9473, ha9474, ho9475, hr9476⟩ := SlAt.at (SlAt.low hd hb9416) (map_get (cAt_get (show k < ds.length by omega)))
   refine wpf_draw (m := 8) (vals := [(17, .slice b cs.length e), (18, .int .i64 (k : Int)), (19, .pointer (some ⟨b9463, o9465, none⟩)), (20, .agg #[.int .i64 ((cAt cs k).kind), .int .i64 ((cAt cs k).run), .int .i64 ((cAt cs k).a), .int .i64 ((cAt cs k).b), .int .i64 ((cAt cs k).n)]), (21, .slice d ds.length e2), (22, .int .i64 (k : Int)), (23, .pointer (some ⟨b9471, o9473, none⟩)), (24, .agg #[.int .i64 ((cAt ds k).kind), .int .i64 ((cAt ds k).run), .int .i64 ((cAt ds k).a), .int .i64 ((cAt ds k).b), .int .i64 ((cAt ds k).n)])]) (fun w' => w9415.grownBy w' none) mixed_ (by kernel_rfl) (grown_drew _) ?_ ?_
   ·
    refine yll_cons rfl (fun w9480 hi9481 => ?_) ?_
    ·
     have hb9482 := low0 hb9416 hi9481
     refine wpo_move (v := .slice b cs.length e) e9419 rfl ?_
     exact wpo_nil ⟨rfl, hi9481⟩
    refine yll_cons rfl (fun w9483 hi9484 => ?_) ?_
    ·
     have hb9485 := low0 hb9416 hi9484
     refine wpo_move (v := .int .i64 (k : Int)) e9418 rfl ?_
     exact wpo_nil ⟨rfl, hi9484⟩
    refine yll_cons rfl (fun w9486 hi9487 => ?_) ?_
    ·
     have hb9488 := low0 hb9416 hi9487
     refine wpo_indexE es_69 rfl rfl ha9466 ho9467 (by omega) (by omega) rfl ?_
     exact wpo_nil ⟨rfl, hi9487⟩
    refine yll_cons rfl (fun w9489 hi9490 => ?_) ?_
    ·
     have hb9491 := low0 hb9416 hi9490
     refine wpo_loadn (vs := [.int .i64 ((cAt cs k).kind), .int .i64 ((cAt cs k).run), .int .i64 ((cAt cs k).a), .int .i64 ((cAt cs k).b), .int .i64 ((cAt cs k).n)]) rt_76 rfl rfl (range_sub (range_low hr9468 hi9490) 0 5 rfl) rfl ?_
     exact wpo_nil ⟨rfl, hi9490⟩
    refine yll_cons rfl (fun w9492 hi9493 => ?_) ?_
    ·
     have hb9494 := low0 hb9416 hi9493
     refine wpo_move (v := .slice d ds.length e2) e9420 rfl ?_
     exact wpo_nil ⟨rfl, hi9493⟩
    refine yll_cons rfl (fun w9495 hi9496 => ?_) ?_
    ·
     have hb9497 := low0 hb9416 hi9496
     refine wpo_move (v := .int .i64 (k : Int)) e9418 rfl ?_
     exact wpo_nil ⟨rfl, hi9496⟩
    refine yll_cons rfl (fun w9498 hi9499 => ?_) ?_
    ·
     have hb9500 := low0 hb9416 hi9499
     refine wpo_indexE es_69 rfl rfl ha9474 ho9475 (by omega) (by omega) rfl ?_
     exact wpo_nil ⟨rfl, hi9499⟩
    refine yll_cons rfl (fun w9501 hi9502 => ?_) ?_
    ·
     have hb9503 := low0 hb9416 hi9502
     refine wpo_loadn (vs := [.int .i64 ((cAt ds k).kind), .int .i64 ((cAt ds k).run), .int .i64 ((cAt ds k).a), .int .i64 ((cAt ds k).b), .int .i64 ((cAt ds k).n)]) rt_76 rfl rfl (range_sub (range_low hr9476 hi9502) 0 5 rfl) rfl ?_
     exact wpo_nil ⟨rfl, hi9502⟩
    exact yll_nil
   ·
    intro w9504 hi9505
    have hb9506 := low0 hb9416 hi9505
    refine wpo_call (vs := [.agg #[.int .i64 ((cAt cs k).kind), .int .i64 ((cAt cs k).run), .int .i64 ((cAt cs k).a), .int .i64 ((cAt cs k).b), .int .i64 ((cAt cs k).n)], .agg #[.int .i64 ((cAt ds k).kind), .int .i64 ((cAt ds k).run), .int .i64 ((cAt ds k).a), .int .i64 ((cAt ds k).b), .int .i64 ((cAt ds k).n)]]) gf_95 (args_cons rfl (args_cons rfl args_nil)) rfl (eqCall_c (cAt cs k) (cAt ds k) _) ?_
    rintro _ w9507 ⟨rfl, hg9508⟩
    have hb9509 := low0 hb9506 hg9508
    refine wpo_not (b' := !(decide ((cAt cs k) = (cAt ds k)))) rfl rfl rfl ?_
    refine wpo_nil ?_
    refine thn_n ?_
    refine wpf_cond rfl (fun h9510 => ?_) (fun h9510 => ?_)
    ·
     have h9511 := nt_t h9510
     have h9512 := of_decide_eq_false h9511
     refine wpf_seq_region ?_
     refine wpo_assign (v := .bool false) rfl rfl ?_
     refine wpo_nil ?_
     refine wpf_ret ?_
     refine blk_r ?_
     refine thn_r ?_
     refine thn_r ?_
     refine blk_r ?_
     refine thn_r ?_
     refine ⟨.bool false, res1 rfl rfl, ?_, hb9509⟩
     exact congrArg Value.bool (decide_eq_false (ne_of_at (k := k) (cAt_get (by omega)) (cAt_get (by omega)) (of_decide_eq_false h9511))).symm
    ·
     have h9513 := nt_f h9510
     have h9514 := of_decide_eq_true h9513
     refine wpf_skip ?_
     refine blk_n ?_
     refine thn_n ?_
     refine wpf_region ?_
     refine wpo_move (v := .int .i64 (k : Int)) e9418 rfl ?_
     refine wpo_add (c := (k : Int) + 1) rfl rfl (by omega) (by omega) (by omega) rfl ?_
     refine wpo_assign (v := .int .i64 ((k : Int) + 1)) rfl rfl ?_
     refine wpo_nil ?_
     refine thn_n ?_
     exact ⟨cs.length - (k + 1), by omega, (k + 1), rfl, (by omega), (take_eq_succ ha (cAt_get (by omega)) (cAt_get (by omega)) (of_decide_eq_true h9513)), rfl, e9419, e9420, hb9509⟩
  ·
   have h9515 := of_decide_eq_false h9421
   refine wpf_exit ?_
   refine thn_e ?_
   refine thn_e ?_
   refine blk_e ?_
   refine thn_n ?_
   refine wpf_seq_region ?_
   refine wpo_assign (v := .bool true) rfl rfl ?_
   refine wpo_nil ?_
   refine wpf_ret ?_
   refine ⟨.bool true, res1 rfl rfl, ?_, hb9416⟩
   exact congrArg Value.bool (decide_eq_true (eq_of_take ha (by omega) (by omega))).symm

end Go.Proofs.Ytlkmdoebmklbbaa
