/- Walks, printed by a program of mine (gen.py) out of the functions. -/
import Derived.Test.YtlkmdoebmklbbaaJ
namespace Go.Proofs.Ytlkmdoebmklbbaa
open Go.RowKit Go.Dw
set_option maxRecDepth 100000
set_option maxHeartbeats 4000000
set_option linter.unusedSimpArgs false
set_option linter.unusedVariables false
theorem gf_31 : goFn Try.prog 31 = true := by kernel_rfl
theorem gf_32 : goFn Try.prog 32 = true := by kernel_rfl
theorem gf_33 : goFn Try.prog 33 = true := by kernel_rfl
theorem law_FnViewHigh (bs : List Int) (a : Option Addr) (c : Nat) (w : World) (hs0 : SlAt w a 1 (bs.map bcell)) (hb : ∀ b ∈ bs, 0 ≤ b ∧ b ≤ 255) (hn : bs.length ≤ 9223372036854775807) (hc : bs.length ≤ c) : CallsR Try.prog 7 #[.slice a bs.length c] w (fun v w' => v = .bool true ∧ w.grownBy w' none) := by
 refine calls_of_wpf (n := 59) Try.func7 rfl Try.ntmps7 rfl ?_
 have hb0 := World.grownBy.refl w none
 have hs := SlAt.lt wide_b (by omega) hs0
 refine wpf_seq_region ?_
 refine wpo_assign (v := .bool false) rfl rfl ?_
 refine wpo_nil ?_
 refine wpf_seq ?_
 refine wpf_seq_region ?_
 refine wpo_move (v := .slice a bs.length c) rfl rfl ?_
 refine wpo_len (by kernel_rfl) rfl rfl ?_
 refine wpo_gtr (q := decide (1048576 < (bs.length : Int))) rfl rfl rfl rfl ?_
 refine wpo_nil ?_
 refine wpf_cond rfl (fun h11348 => ?_) (fun h11348 => ?_)
 ·
  have h11349 := of_decide_eq_true h11348
  refine wpf_seq_region ?_
  refine wpo_assign (v := .bool true) rfl rfl ?_
  refine wpo_nil ?_
  refine wpf_ret ?_
  refine thn_r ?_
  refine ⟨.bool true, res1 rfl rfl, ?_, hb0⟩
  rfl
 ·
  have h11350 := of_decide_eq_false h11348
  refine wpf_skip ?_
  refine thn_n ?_
  refine wpf_seq_region ?_
  refine wpo_move (v := .slice a bs.length c) rfl rfl ?_
  refine wpo_call (vs := [.slice a bs.length c]) gf_31 (args_cons rfl args_nil) rfl (DrawViewHigh_c bs a c _ (SlAt.low hs0 hb0) hb (by omega) (by omega)) ?_
  rintro _ w11358 ⟨B11351, cap11352, ms11353, k11359, l11360, rfl, hTG11354, hTS11355, hTn11356, hd11361, hd11362, hg11357⟩
  have hb11363 := low0 hb0 hg11357
  have hTl11364 := hTS11355.len
  refine wpo_move (v := .tuple #[.slice (some ⟨B11351, 0, none⟩) ms11353.length cap11352, .int .i64 k11359, .agg #[.int .i64 l11360.s, .int .i64 l11360.v]]) rfl rfl ?_
  refine wpo_extract (v := .slice (some ⟨B11351, 0, none⟩) ms11353.length cap11352) rfl rfl rfl ?_
  refine wpo_extract (v := .int .i64 k11359) rfl rfl rfl ?_
  refine wpo_extract (v := .agg #[.int .i64 l11360.s, .int .i64 l11360.v]) rfl rfl rfl ?_
  refine wpo_alloc (cs := #[.int .i64 0, .int .i64 0]) zt_40 rfl rfl ?_
  intro B11365 w11366 hN11367
  have hlB11365 := hN_ge hN11367 hb11363
  have hb11368 := low0 hb11363 hN11367.grw
  refine wpo_assign (v := .slice (some ⟨B11351, 0, none⟩) ms11353.length cap11352) rfl rfl ?_
  refine wpo_assign (v := .int .i64 k11359) rfl rfl ?_
  refine wpo_storen (vs := [.int .i64 l11360.s, .int .i64 l11360.v]) (cs' := #[.int .i64 l11360.s, .int .i64 l11360.v]) rt_40 rfl rfl rfl (by simp [Value.oneCell']) hN11367.blk (Nat.le_of_ble_eq_true rfl) rfl ?_
  intro w11369 hS11370
  have hb11371 := low1 hb11368 hS11370.grw (by omega)
  refine wpo_nil ?_
  refine wpf_seq_region ?_
  refine wpo_move (v := .slice (some ⟨B11351, 0, none⟩) ms11353.length cap11352) rfl rfl ?_
  refine wpo_move (v := .int .i64 k11359) rfl rfl ?_
  refine wpo_loadn (vs := [.int .i64 l11360.s, .int .i64 l11360.v]) rt_40 rfl rfl (hS11370.blk.rangeL 0 2 rfl) rfl ?_
  refine wpo_call (vs := [.slice (some ⟨B11351, 0, none⟩) ms11353.length cap11352, .int .i64 k11359, .agg #[.int .i64 l11360.s, .int .i64 l11360.v]]) gf_32 (args_cons rfl (args_cons rfl (args_cons rfl args_nil))) rfl (ViewHigh_c k11359 l11360 (by omega) _ ms11353 _ _ (TabG.at (TabG.low hTG11354 (low1 hN11367.grw hS11370.grw (Nat.le_trans ((World.grownBy.refl _ none)).size (Nat.le_of_eq hN11367.eq.symm))))) hTl11364 (by omega)) ?_
  rintro _ w11372 ⟨rfl, hg11373⟩
  have hb11374 := low0 hb11371 hg11373
  refine wpo_assign (v := .bool (viewHigh (tabT ms11353) k11359 l11360)) rfl rfl ?_
  refine wpo_nil ?_
  refine wpf_seq ?_
  refine wpf_seq_region_mid (fun f' w' => (f' 2 = .bool false ∧ f' 3 = .slice (some ⟨B11351, 0, none⟩) ms11353.length cap11352 ∧ f' 4 = .int .i64 k11359 ∧ f' 5 = .pointer (some ⟨B11365, 0, none⟩) ∧ f' 6 = .bool (viewHigh (tabT ms11353) k11359 l11360) ∧ f' 41 = .bool (((false || (!tableOk (tabT ms11353))) || (!labelOk l11360)) || (decide ((ms11353.length : Int) < k11359)))) ∧ w11372.grownBy w' none) ?_ ?_
  ·
   refine wpo_move (v := .bool (viewHigh (tabT ms11353) k11359 l11360)) rfl rfl ?_
   refine wpo_move (v := .slice (some ⟨B11351, 0, none⟩) ms11353.length cap11352) rfl rfl ?_
   refine wpo_move (v := .int .i64 k11359) rfl rfl ?_
   have k11393 := (hS11370.blk.grown0 hg11373)
   refine wpo_loadn (vs := [.int .i64 l11360.s, .int .i64 l11360.v]) rt_40 rfl rfl (k11393.rangeL 0 2 rfl) rfl ?_
   refine wpo_call (vs := [.slice (some ⟨B11351, 0, none⟩) ms11353.length cap11352, .int .i64 k11359, .agg #[.int .i64 l11360.s, .int .i64 l11360.v]]) gf_33 (args_cons rfl (args_cons rfl (args_cons rfl args_nil))) rfl (sViewHigh_c k11359 l11360 (by omega) _ ms11353 _ _ (TabG.at (TabG.low hTG11354 (low0 (low1 hN11367.grw hS11370.grw (Nat.le_trans ((World.grownBy.refl _ none)).size (Nat.le_of_eq hN11367.eq.symm))) hg11373))) hTl11364 (by omega)) ?_
   rintro _ w11394 ⟨rfl, hg11395⟩
   have hb11396 := low0 hb11374 hg11395
   refine wpo_neqb (q := false) (by kernel_rfl) rfl rfl (by simp) rfl ?_
   refine wpo_move (v := .bool false) rfl rfl ?_
   refine wpo_run rfl rfl rfl rfl ?_
   refine wpo_move (v := .slice (some ⟨B11351, 0, none⟩) ms11353.length cap11352) rfl rfl ?_
   refine wpo_run rfl rfl rfl rfl ?_
   refine wpo_call (vs := [.slice (some ⟨B11351, 0, none⟩) ms11353.length cap11352]) gf_34 (args_cons rfl args_nil) rfl (sTableOk_c  _ ms11353 _ _ (TabG.at (TabG.low hTG11354 (low0 (low0 (low1 hN11367.grw hS11370.grw (Nat.le_trans ((World.grownBy.refl _ none)).size (Nat.le_of_eq hN11367.eq.symm))) hg11373) hg11395))) hTl11364 (by omega)) ?_
   rintro _ w11397 ⟨rfl, hg11398⟩
   have hb11399 := low0 hb11396 hg11398
   refine wpo_run rfl rfl rfl rfl ?_
   refine wpo_not (b' := !tableOk (tabT ms11353)) rfl rfl rfl ?_
   refine wpo_pickf (v := .bool (!tableOk (tabT ms11353))) rfl rfl rfl rfl ?_
   refine wpo_move (v := .bool (!tableOk (tabT ms11353))) rfl rfl ?_
   rcases bcases (!tableOk (tabT ms11353)) with h11400 | h11400
   ·
    have h11401 := nt_t h11400
    iterate 3 refine wpo_pass rfl rfl rfl h11400 rfl ?_
    refine wpo_pickt (v := .bool true) rfl h11400 rfl rfl ?_
    refine wpo_move (v := .bool true) rfl rfl ?_
    iterate 4 refine wpo_pass rfl rfl rfl rfl rfl ?_
    refine wpo_pickt (v := .bool true) rfl rfl rfl rfl ?_
    exact wpo_nil ⟨⟨rfl, rfl, rfl, rfl, rfl, (congrArg Value.bool (by first | (simp only [h11348, h11400, h11401, b0, b1, b2, b3, b4, b5, b6, b7, b8, b9]; done) | simp [h11348, h11400, h11401]))⟩, (grown_trans hg11395 hg11398)⟩
   ·
    have h11402 := nt_f h11400
    refine wpo_run rfl rfl rfl h11400 ?_
    have k11403 := ((k11393.grown0 hg11395).grown0 hg11398)
    refine wpo_loadn (vs := [.int .i64 l11360.s, .int .i64 l11360.v]) rt_40 rfl rfl (k11403.rangeL 0 2 rfl) rfl ?_
    refine wpo_run rfl rfl rfl h11400 ?_
    refine wpo_call (vs := [.agg #[.int .i64 l11360.s, .int .i64 l11360.v]]) gf_35 (args_cons rfl args_nil) rfl (sLabelOk_c l11360 _) ?_
    rintro _ w11404 ⟨rfl, hg11405⟩
    have hb11406 := low0 hb11399 hg11405
    refine wpo_run rfl rfl rfl h11400 ?_
    refine wpo_not (b' := !labelOk l11360) rfl rfl rfl ?_
    refine wpo_pickf (v := .bool (!labelOk l11360)) rfl h11400 rfl rfl ?_
    refine wpo_move (v := .bool (!labelOk l11360)) rfl rfl ?_
    rcases bcases (!labelOk l11360) with h11407 | h11407
    ·
     have h11408 := nt_t h11407
     iterate 4 refine wpo_pass rfl rfl rfl h11407 rfl ?_
     refine wpo_pickt (v := .bool true) rfl h11407 rfl rfl ?_
     exact wpo_nil ⟨⟨rfl, rfl, rfl, rfl, rfl, (congrArg Value.bool (by first | (simp only [h11348, h11400, h11402, h11407, h11408, b0, b1, b2, b3, b4, b5, b6, b7, b8, b9]; done) | simp [h11348, h11400, h11402, h11407, h11408]))⟩, (grown_trans (grown_trans hg11395 hg11398) hg11405)⟩
    ·
     have h11409 := nt_f h11407
     refine wpo_run rfl rfl rfl h11407 ?_
     refine wpo_move (v := .int .i64 k11359) rfl rfl ?_
     refine wpo_run rfl rfl rfl h11407 ?_
     refine wpo_move (v := .slice (some ⟨B11351, 0, none⟩) ms11353.length cap11352) rfl rfl ?_
     refine wpo_run rfl rfl rfl h11407 ?_
     refine wpo_len (by kernel_rfl) rfl rfl ?_
     refine wpo_run rfl rfl rfl h11407 ?_
     refine wpo_gtr (q := decide ((ms11353.length : Int) < k11359)) rfl rfl rfl rfl ?_
     refine wpo_pickf (v := .bool (decide ((ms11353.length : Int) < k11359))) rfl h11407 rfl rfl ?_
     exact wpo_nil ⟨⟨rfl, rfl, rfl, rfl, rfl, (congrArg Value.bool (by first | (simp only [h11348, h11400, h11402, h11407, h11409, b0, b1, b2, b3, b4, b5, b6, b7, b8, b9]; done) | simp [h11348, h11400, h11402, h11407, h11409]))⟩, (grown_trans (grown_trans hg11395 hg11398) hg11405)⟩
  ·
   rintro f11410 w11411 ⟨⟨e11412, e11413, e11414, e11415, e11416, e11417⟩, hg11418⟩
   have hb11419 := low0 hb11374 hg11418
   refine wpf_cond e11417 (fun h11420 => ?_) (fun h11420 => ?_)
   ·
    refine wpf_seq_region ?_
    refine wpo_move (v := .bool (viewHigh (tabT ms11353) k11359 l11360)) e11416 rfl ?_
    refine wpo_move (v := .slice (some ⟨B11351, 0, none⟩) ms11353.length cap11352) e11413 rfl ?_
    refine wpo_move (v := .int .i64 k11359) e11414 rfl ?_
    have k11421 := ((hS11370.blk.grown0 hg11373).grown0 hg11418)
    refine wpo_loadn (vs := [.int .i64 l11360.s, .int .i64 l11360.v]) rt_40 e11415 rfl (k11421.rangeL 0 2 rfl) rfl ?_
    refine wpo_call (vs := [.slice (some ⟨B11351, 0, none⟩) ms11353.length cap11352, .int .i64 k11359, .agg #[.int .i64 l11360.s, .int .i64 l11360.v]]) gf_33 (args_cons rfl (args_cons rfl (args_cons rfl args_nil))) rfl (sViewHigh_c k11359 l11360 (by omega) _ ms11353 _ _ (TabG.at (TabG.low hTG11354 (low0 (low0 (low1 hN11367.grw hS11370.grw (Nat.le_trans ((World.grownBy.refl _ none)).size (Nat.le_of_eq hN11367.eq.symm))) hg11373) hg11418))) hTl11364 (by omega)) ?_
    rintro _ w11422 ⟨rfl, hg11423⟩
    have hb11424 := low0 hb11419 hg11423
    refine wpo_eqlb (q := true) (by kernel_rfl) rfl rfl (by simp) rfl ?_
    refine wpo_assign (v := .bool true) rfl rfl ?_
    refine wpo_nil ?_
    refine wpf_ret ?_
    refine thn_r ?_
    refine ⟨.bool true, res1 rfl rfl, ?_, hb11424⟩
    rfl
   ·
    have h11425 := or_l h11420
    have h11426 := or_l h11425
    have h11427 := or_l h11426
    have h11428 := or_r h11426
    have h11429 := nt_f h11428
    have h11430 := or_r h11425
    have h11431 := nt_f h11430
    have h11432 := or_r h11420
    have h11433 := of_decide_eq_false h11432
    refine wpf_skip ?_
    refine thn_n ?_
    refine wpf_seq ?_
    obtain ⟨b11462, q11463, o11464, ha11465, ho11466, hr11467⟩ := SlAt.at (TabG.at (TabG.low hTG11354 (low0 (low0 (low1 hN11367.grw hS11370.grw (Nat.le_trans ((World.grownBy.refl _ none)).size (Nat.le_of_eq hN11367.eq.symm))) hg11373) hg11418))).1 (map_get (mAt_get (show (k11359 - 1).toNat < ms11353.length by omega)))
    have hle11468 := TabLen.at hTl11364 (mAt_get (show (k11359 - 1).toNat < ms11353.length by omega))
    refine wpf_draw (m := 10) (vals := [(48, .bool (viewHigh (tabT ms11353) k11359 l11360)), (49, .slice (some ⟨B11351, 0, none⟩) ms11353.length cap11352), (50, .int .i64 k11359), (51, .int .i64 (k11359 - 1)), (52, .pointer (some ⟨b11462, o11464, none⟩)), (53, .pointer (some ⟨b11462, o11464 + 1, none⟩)), (54, .agg #[.int .i64 ((mAt ms11353 ((k11359 - 1).toNat)).t.lab.s), .int .i64 ((mAt ms11353 ((k11359 - 1).toNat)).t.lab.v)]), (55, .agg #[.int .i64 l11360.s, .int .i64 l11360.v]), (56, .bool (labelFlow ((mAt ms11353 ((k11359 - 1).toNat)).t.lab) l11360)), (57, .bool (!labelFlow ((mAt ms11353 ((k11359 - 1).toNat)).t.lab) l11360))]) (fun w' => w11411.grownBy w' none) mixed_ (by kernel_rfl) (grown_drew _) ?_ ?_
    ·
     refine yll_cons rfl (fun w11477 hi11478 => ?_) ?_
     ·
      have hb11479 := low0 hb11419 hi11478
      refine wpo_move (v := .bool (viewHigh (tabT ms11353) k11359 l11360)) e11416 rfl ?_
      exact wpo_nil ⟨rfl, hi11478⟩
     refine yll_cons rfl (fun w11480 hi11481 => ?_) ?_
     ·
      have hb11482 := low0 hb11419 hi11481
      refine wpo_move (v := .slice (some ⟨B11351, 0, none⟩) ms11353.length cap11352) e11413 rfl ?_
      exact wpo_nil ⟨rfl, hi11481⟩
     refine yll_cons rfl (fun w11483 hi11484 => ?_) ?_
     ·
      have hb11485 := low0 hb11419 hi11484
      refine wpo_move (v := .int .i64 k11359) e11414 rfl ?_
      exact wpo_nil ⟨rfl, hi11484⟩
     refine yll_cons rfl (fun w11486 hi11487 => ?_) ?_
     ·
      have hb11488 := low0 hb11419 hi11487
      refine wpo_sub (c := k11359 - 1) rfl rfl (by omega) (by omega) (by omega) rfl ?_
      exact wpo_nil ⟨rfl, hi11487⟩
     refine yll_cons rfl (fun w11489 hi11490 => ?_) ?_
     ·
      have hb11491 := low0 hb11419 hi11490
      refine wpo_indexE es_54 rfl rfl ha11465 ho11466 (by omega) (by omega) rfl ?_
      exact wpo_nil ⟨rfl, hi11490⟩
     refine yll_cons rfl (fun w11492 hi11493 => ?_) ?_
     ·
      have hb11494 := low0 hb11419 hi11493
      refine wpo_fieldAddr (o' := o11464 + 1) fo_45_1 rfl rfl rfl ?_
      exact wpo_nil ⟨rfl, hi11493⟩
     refine yll_cons rfl (fun w11495 hi11496 => ?_) ?_
     ·
      have hb11497 := low0 hb11419 hi11496
      refine wpo_loadn (vs := [.int .i64 ((mAt ms11353 ((k11359 - 1).toNat)).t.lab.s), .int .i64 ((mAt ms11353 ((k11359 - 1).toNat)).t.lab.v)]) rt_40 rfl rfl (range_sub (range_low hr11467 hi11496) 1 2 rfl) rfl ?_
      exact wpo_nil ⟨rfl, hi11496⟩
     refine yll_cons rfl (fun w11498 hi11499 => ?_) ?_
     ·
      have hb11500 := low0 hb11419 hi11499
      have k11501 := (((hS11370.blk.grown0 hg11373).grown0 hg11418).grown0 hi11499)
      refine wpo_loadn (vs := [.int .i64 l11360.s, .int .i64 l11360.v]) rt_40 e11415 rfl (k11501.rangeL 0 2 rfl) rfl ?_
      exact wpo_nil ⟨rfl, hi11499⟩
     refine yll_cons rfl (fun w11502 hi11503 => ?_) ?_
     ·
      have hb11504 := low0 hb11419 hi11503
      refine wpo_call (vs := [.agg #[.int .i64 ((mAt ms11353 ((k11359 - 1).toNat)).t.lab.s), .int .i64 ((mAt ms11353 ((k11359 - 1).toNat)).t.lab.v)], .agg #[.int .i64 l11360.s, .int .i64 l11360.v]]) gf_36 (args_cons rfl (args_cons rfl args_nil)) rfl (LabelFlow_c ((mAt ms11353 ((k11359 - 1).toNat)).t.lab) l11360 _) ?_
      rintro _ w11505 ⟨rfl, hg11506⟩
      have hb11507 := low0 hb11504 hg11506
      exact wpo_nil ⟨rfl, (grown_trans hi11503 hg11506)⟩
     refine yll_cons rfl (fun w11508 hi11509 => ?_) ?_
     ·
      have hb11510 := low0 hb11419 hi11509
      refine wpo_not (b' := !labelFlow ((mAt ms11353 ((k11359 - 1).toNat)).t.lab) l11360) rfl rfl rfl ?_
      exact wpo_nil ⟨rfl, hi11509⟩
     exact yll_nil
    ·
     intro w11511 hi11512
     have hb11513 := low0 hb11419 hi11512
     refine wpo_eqlb (q := decide (viewHigh (tabT ms11353) k11359 l11360 = (!labelFlow ((mAt ms11353 ((k11359 - 1).toNat)).t.lab) l11360))) (by kernel_rfl) rfl rfl rfl rfl ?_
     refine wpo_assign (v := .bool (decide (viewHigh (tabT ms11353) k11359 l11360 = (!labelFlow ((mAt ms11353 ((k11359 - 1).toNat)).t.lab) l11360)))) rfl rfl ?_
     refine wpo_nil ?_
     refine thn_n ?_
     refine wpf_ret ?_
     refine ⟨.bool (decide (viewHigh (tabT ms11353) k11359 l11360 = (!labelFlow ((mAt ms11353 ((k11359 - 1).toNat)).t.lab) l11360))), res1 rfl rfl, ?_, hb11513⟩
     exact congrArg Value.bool (decide_eq_true (viewHigh_law h11429 h11431 (by omega) (by omega)))

end Go.Proofs.Ytlkmdoebmklbbaa
