/- Walks, printed by a program of mine (gen.py) out of the functions. -/
import Derived.Test.YtlkmdoebmklbbaaH
import Derived.Test.YtlkmdoebmklbbaaP
namespace Go.Proofs.Ytlkmdoebmklbbaa
open Go.RowKit Go.Dw
set_option maxRecDepth 100000
set_option maxHeartbeats 4000000
set_option linter.unusedSimpArgs false
set_option linter.unusedVariables false
theorem es_54 : elemSz Try.prog 54 = some 8 := by kernel_rfl
theorem es_61 : elemSz Try.prog 61 = some 8 := by kernel_rfl
theorem fo_111_0 : fieldOff Try.prog 111 0 = some 0 := by kernel_rfl
theorem fo_111_1 : fieldOff Try.prog 111 1 = some 1 := by kernel_rfl
theorem fo_111_2 : fieldOff Try.prog 111 2 = some 3 := by kernel_rfl
theorem fo_111_3 : fieldOff Try.prog 111 3 = some 4 := by kernel_rfl
theorem fo_111_4 : fieldOff Try.prog 111 4 = some 5 := by kernel_rfl
theorem fo_111_5 : fieldOff Try.prog 111 5 = some 6 := by kernel_rfl
theorem fo_111_6 : fieldOff Try.prog 111 6 = some 7 := by kernel_rfl
theorem gf_106 : goFn Try.prog 106 = true := by kernel_rfl
theorem gf_107 : goFn Try.prog 107 = true := by kernel_rfl
theorem gf_27 : goFn Try.prog 27 = true := by kernel_rfl
theorem gf_28 : goFn Try.prog 28 = true := by kernel_rfl
theorem gf_84 : goFn Try.prog 84 = true := by kernel_rfl
theorem gf_89 : goFn Try.prog 89 = true := by kernel_rfl
theorem gf_90 : goFn Try.prog 90 = true := by kernel_rfl
theorem mk_43 : mkTy Try.prog 43 = some (3, 1, 8, some (.int .i64 0)) := by kernel_rfl
theorem mk_54 : mkTy Try.prog 54 = some (45, 8, 96, some (.agg #[.int .i64 0, .int .i64 0, .int .i64 0, .int .i64 0, .int .i64 0, .slice none 0 0, .slice none 0 0, .int .i64 0])) := by kernel_rfl
theorem ot_22 : oneTy Try.prog 22 = true := by kernel_rfl
theorem rt_111 : rowTy Try.prog 111 = some 8 := by kernel_rfl
theorem rt_50 : rowTy Try.prog 50 = some 2 := by kernel_rfl
theorem szIntS_c (m : Int) (w : World) (xs : List Int) (a : Option Addr) (c : Nat) (hn : xs.length ≤ 9223372036854775807) (hm : 0 ≤ m ∧ m ≤ 1048576) : CallsR Try.prog 106 #[.slice a xs.length c, .int .i64 m] w (fun v w' => ∃ n : Int, v = .int .i64 n ∧ (0 ≤ n → (xs.length : Int) + n ≤ m) ∧ -1 ≤ n ∧ n ≤ m ∧ w.grownBy w' none) := by
 refine calls_of_wpf (n := 12) Try.func106 rfl Try.ntmps106 rfl ?_
 have hb0 := World.grownBy.refl w none
 refine wpf_seq_region ?_
 refine wpo_assign (v := .int .i64 0) rfl rfl ?_
 refine wpo_nil ?_
 refine wpf_seq_region ?_
 refine wpo_move (v := .int .i64 m) rfl rfl ?_
 refine wpo_move (v := .slice a xs.length c) rfl rfl ?_
 refine wpo_len (by kernel_rfl) rfl rfl ?_
 refine wpo_sub (c := m - (xs.length : Int)) rfl rfl (by omega) (by omega) (by omega) rfl ?_
 refine wpo_assign (v := .int .i64 (m - (xs.length : Int))) rfl rfl ?_
 refine wpo_nil ?_
 refine wpf_seq ?_
 refine wpf_seq_region ?_
 refine wpo_move (v := .int .i64 (m - (xs.length : Int))) rfl rfl ?_
 refine wpo_lss (q := decide (m - (xs.length : Int) < 0)) rfl rfl rfl rfl ?_
 refine wpo_nil ?_
 refine wpf_cond rfl (fun h6342 => ?_) (fun h6342 => ?_)
 ·
  have h6343 := of_decide_eq_true h6342
  refine wpf_seq_region ?_
  refine wpo_assign (v := .int .i64 (-1)) rfl rfl ?_
  refine wpo_nil ?_
  refine wpf_ret ?_
  refine thn_r ?_
  refine ⟨.int .i64 (-1), res1 rfl rfl, (-1), rfl, by omega, by omega, by omega, hb0⟩
 ·
  have h6344 := of_decide_eq_false h6342
  refine wpf_skip ?_
  refine thn_n ?_
  refine wpf_seq_region ?_
  refine wpo_move (v := .int .i64 (m - (xs.length : Int))) rfl rfl ?_
  refine wpo_assign (v := .int .i64 (m - (xs.length : Int))) rfl rfl ?_
  refine wpo_nil ?_
  refine wpf_ret ?_
  refine ⟨.int .i64 (m - (xs.length : Int)), res1 rfl rfl, (m - (xs.length : Int)), rfl, by omega, by omega, by omega, hb0⟩

theorem szThing_c (m : Int) (w : World) (q : MTh) (hq : ThAt w q) (hn : q.t.slots.length ≤ 9223372036854775807 ∧ q.t.queue.length ≤ 9223372036854775807) (hm : 0 ≤ m ∧ m ≤ 1048576) : CallsR Try.prog 89 #[.agg #[.int .i64 q.t.kind, .int .i64 q.t.lab.s, .int .i64 q.t.lab.v, .int .i64 q.t.ve, .int .i64 q.t.num, .slice q.sa q.t.slots.length q.sc, .slice q.qa q.t.queue.length q.qc, .int .i64 q.t.to], .int .i64 m] w (fun v w' => ∃ n : Int, v = .int .i64 n ∧ (0 ≤ n → (q.t.slots.length : Int) + q.t.queue.length + n ≤ m) ∧ -1 ≤ n ∧ n ≤ m ∧ w.grownBy w' none) := by
 refine calls_of_wpf (n := 18) Try.func89 rfl Try.ntmps89 rfl ?_
 have hb0 := World.grownBy.refl w none
 refine wpf_seq_region ?_
 refine wpo_box (v := .agg #[.int .i64 q.t.kind, .int .i64 q.t.lab.s, .int .i64 q.t.lab.v, .int .i64 q.t.ve, .int .i64 q.t.num, .slice q.sa q.t.slots.length q.sc, .slice q.qa q.t.queue.length q.qc, .int .i64 q.t.to]) (cs := #[.int .i64 q.t.kind, .int .i64 q.t.lab.s, .int .i64 q.t.lab.v, .int .i64 q.t.ve, .int .i64 q.t.num, .slice q.sa q.t.slots.length q.sc, .slice q.qa q.t.queue.length q.qc, .int .i64 q.t.to]) rfl rfl rfl ?_
 intro B6345 w6346 hN6347
 have hlB6345 := hN_ge hN6347 hb0
 have hb6348 := low0 hb0 hN6347.grw
 refine wpo_assign (v := .int .i64 0) rfl rfl ?_
 refine wpo_nil ?_
 refine wpf_seq_region ?_
 refine wpo_fieldAddr (o' := 5) fo_111_4 rfl rfl rfl ?_
 refine wpo_load1 (v := .slice q.sa q.t.slots.length q.sc) ot_22 rfl (hN6347.blk.cell rfl) rfl ?_
 refine wpo_move (v := .int .i64 m) rfl rfl ?_
 refine wpo_call (vs := [.slice q.sa q.t.slots.length q.sc, .int .i64 m]) gf_13 (args_cons rfl (args_cons rfl args_nil)) rfl (szRightS_c m _ q.t.slots _ _ (by omega) (by omega)) ?_
 rintro _ w6349 ⟨n6351, rfl, hn6352, hn6353, hn6354, hg6350⟩
 have hb6355 := low0 hb6348 hg6350
 refine wpo_assign (v := .int .i64 n6351) rfl rfl ?_
 refine wpo_nil ?_
 refine wpf_seq ?_
 refine wpf_seq_region ?_
 refine wpo_move (v := .int .i64 n6351) rfl rfl ?_
 refine wpo_lss (q := decide (n6351 < 0)) rfl rfl rfl rfl ?_
 refine wpo_nil ?_
 refine wpf_cond rfl (fun h6356 => ?_) (fun h6356 => ?_)
 ·
  have h6357 := of_decide_eq_true h6356
  refine wpf_seq_region ?_
  refine wpo_assign (v := .int .i64 (-1)) rfl rfl ?_
  refine wpo_nil ?_
  refine wpf_ret ?_
  refine thn_r ?_
  refine ⟨.int .i64 (-1), res1 rfl rfl, (-1), rfl, by omega, by omega, by omega, hb6355⟩
 ·
  have h6358 := of_decide_eq_false h6356
  refine wpf_skip ?_
  refine thn_n ?_
  refine wpf_seq_region ?_
  refine wpo_fieldAddr (o' := 6) fo_111_5 rfl rfl rfl ?_
  have k6359 := (hN6347.blk.grown0 hg6350)
  refine wpo_load1 (v := .slice q.qa q.t.queue.length q.qc) ot_43 rfl (k6359.cell rfl) rfl ?_
  refine wpo_move (v := .int .i64 n6351) rfl rfl ?_
  refine wpo_call (vs := [.slice q.qa q.t.queue.length q.qc, .int .i64 n6351]) gf_106 (args_cons rfl (args_cons rfl args_nil)) rfl (szIntS_c n6351 _ q.t.queue _ _ (by omega) (by omega)) ?_
  rintro _ w6360 ⟨n6362, rfl, hn6363, hn6364, hn6365, hg6361⟩
  have hb6366 := low0 hb6355 hg6361
  refine wpo_assign (v := .int .i64 n6362) rfl rfl ?_
  refine wpo_nil ?_
  refine wpf_seq ?_
  refine wpf_seq_region ?_
  refine wpo_move (v := .int .i64 n6362) rfl rfl ?_
  refine wpo_lss (q := decide (n6362 < 0)) rfl rfl rfl rfl ?_
  refine wpo_nil ?_
  refine wpf_cond rfl (fun h6367 => ?_) (fun h6367 => ?_)
  ·
   have h6368 := of_decide_eq_true h6367
   refine wpf_seq_region ?_
   refine wpo_assign (v := .int .i64 (-1)) rfl rfl ?_
   refine wpo_nil ?_
   refine wpf_ret ?_
   refine thn_r ?_
   refine ⟨.int .i64 (-1), res1 rfl rfl, (-1), rfl, by omega, by omega, by omega, hb6366⟩
  ·
   have h6369 := of_decide_eq_false h6367
   refine wpf_skip ?_
   refine thn_n ?_
   refine wpf_seq_region ?_
   refine wpo_move (v := .int .i64 n6362) rfl rfl ?_
   refine wpo_assign (v := .int .i64 n6362) rfl rfl ?_
   refine wpo_nil ?_
   refine wpf_ret ?_
   refine ⟨.int .i64 n6362, res1 rfl rfl, n6362, rfl, by omega, by omega, by omega, hb6366⟩

theorem szThingS_c (m : Int) (w : World) (ms : List MTh) (a : Option Addr) (c : Nat) (ht : TabAt w a ms) (hbig : TabBig ms) (hn : ms.length ≤ 9223372036854775807) (hm : 0 ≤ m ∧ m ≤ 1048576) : CallsR Try.prog 37 #[.slice a ms.length c, .int .i64 m] w (fun v w' => ∃ n : Int, v = .int .i64 n ∧ (0 ≤ n → TabLen ms ∧ ms.length ≤ 1048576) ∧ -1 ≤ n ∧ n ≤ 1048576 ∧ w.grownBy w' none) := by
 refine calls_of_wpf (n := 27) Try.func37 rfl Try.ntmps37 rfl ?_
 have hb0 := World.grownBy.refl w none
 refine wpf_seq_region ?_
 refine wpo_assign (v := .int .i64 0) rfl rfl ?_
 refine wpo_nil ?_
 refine wpf_seq_region ?_
 refine wpo_move (v := .int .i64 m) rfl rfl ?_
 refine wpo_move (v := .slice a ms.length c) rfl rfl ?_
 refine wpo_len (by kernel_rfl) rfl rfl ?_
 refine wpo_sub (c := m - (ms.length : Int)) rfl rfl (by omega) (by omega) (by omega) rfl ?_
 refine wpo_assign (v := .int .i64 (m - (ms.length : Int))) rfl rfl ?_
 refine wpo_nil ?_
 refine wpf_seq ?_
 refine wpf_seq_region ?_
 refine wpo_move (v := .int .i64 (m - (ms.length : Int))) rfl rfl ?_
 refine wpo_lss (q := decide (m - (ms.length : Int) < 0)) rfl rfl rfl rfl ?_
 refine wpo_nil ?_
 refine wpf_cond rfl (fun h6370 => ?_) (fun h6370 => ?_)
 ·
  have h6371 := of_decide_eq_true h6370
  refine wpf_seq_region ?_
  refine wpo_assign (v := .int .i64 (-1)) rfl rfl ?_
  refine wpo_nil ?_
  refine wpf_ret ?_
  refine thn_r ?_
  refine ⟨.int .i64 (-1), res1 rfl rfl, (-1), rfl, fun h => absurd h (by omega), by omega, by omega, hb0⟩
 ·
  have h6372 := of_decide_eq_false h6370
  refine wpf_skip ?_
  refine thn_n ?_
  refine wpf_seq ?_
  refine wpf_seq_region ?_
  refine wpo_assign (v := .int .i64 0) rfl rfl ?_
  refine wpo_nil ?_
  refine wpf_block ?_
  refine wpf_loopN (fun mm f' w' => ∃ (k : Nat) (n : Int), mm = ms.length - k ∧ k ≤ ms.length ∧ (0 ≤ n ∧ n ≤ 1048576) ∧ (∀ x ∈ ms.take k, x.t.slots.length ≤ 1048576 ∧ x.t.queue.length ≤ 1048576) ∧ f' 1 = .int .i64 n ∧ f' 5 = .int .i64 (k : Int) ∧ f' 0 = .slice a ms.length c ∧ w.grownBy w' none) (ms.length - 0) ⟨0, (m - (ms.length : Int)), rfl, (Nat.zero_le _), (by omega), (fun x hx => by simp at hx), rfl, rfl, rfl, hb0⟩ ?_
  rintro mm f6373 w6374 ⟨k, n, hm6376, hk, hnn, htl, e6377, e6378, e6379, hb6375⟩
  refine wpf_seq ?_
  refine wpf_seq_region ?_
  refine wpo_move (v := .int .i64 (k : Int)) e6378 rfl ?_
  refine wpo_move (v := .slice a ms.length c) e6379 rfl ?_
  refine wpo_len (by kernel_rfl) rfl rfl ?_
  refine wpo_lss (q := decide ((k : Int) < (ms.length : Int))) rfl rfl rfl rfl ?_
  refine wpo_nil ?_
  refine wpf_cond rfl (fun h6380 => ?_) (fun h6380 => ?_)
  ·
   have h6381 := of_decide_eq_true h6380
   refine wpf_skip ?_
   refine thn_n ?_
   refine wpf_seq ?_
   refine wpf_block ?_
   refine wpf_seq_region ?_
   refine wpo_move (v := .slice a ms.length c) e6379 rfl ?_
   refine wpo_move (v := .int .i64 (k : Int)) e6378 rfl ?_
   obtain ⟨b6384, q6385, o6386, ha6387, ho6388, hr6389⟩ := SlAt.at (TabAt.low ht hb6375).1 (map_get (mAt_get (show k < ms.length by omega)))
   have hle6390 := TabBig.at hbig (mAt_get (show k < ms.length by omega))
   refine wpo_indexE es_61 rfl rfl ha6387 ho6388 (by omega) (by omega) rfl ?_
   refine wpo_loadn (vs := [.int .i64 ((mAt ms k).t.kind), .int .i64 ((mAt ms k).t.lab.s), .int .i64 ((mAt ms k).t.lab.v), .int .i64 ((mAt ms k).t.ve), .int .i64 ((mAt ms k).t.num), .slice ((mAt ms k).sa) ((mAt ms k).t.slots.length) ((mAt ms k).sc), .slice ((mAt ms k).qa) ((mAt ms k).t.queue.length) ((mAt ms k).qc), .int .i64 ((mAt ms k).t.to)]) rt_111 rfl rfl (range_sub hr6389 0 8 rfl) rfl ?_
   refine wpo_move (v := .int .i64 n) e6377 rfl ?_
   refine wpo_call (vs := [.agg #[.int .i64 ((mAt ms k).t.kind), .int .i64 ((mAt ms k).t.lab.s), .int .i64 ((mAt ms k).t.lab.v), .int .i64 ((mAt ms k).t.ve), .int .i64 ((mAt ms k).t.num), .slice ((mAt ms k).sa) ((mAt ms k).t.slots.length) ((mAt ms k).sc), .slice ((mAt ms k).qa) ((mAt ms k).t.queue.length) ((mAt ms k).qc), .int .i64 ((mAt ms k).t.to)], .int .i64 n]) gf_89 (args_cons rfl (args_cons rfl args_nil)) rfl (szThing_c n _ (mAt ms k) (TabAt.th (TabAt.low ht hb6375) (mAt_get (show k < ms.length by omega))) (by omega) (by omega)) ?_
   rintro _ w6391 ⟨n6393, rfl, hn6394, hn6395, hn6396, hg6392⟩
   have hb6397 := low0 hb6375 hg6392
   refine wpo_assign (v := .int .i64 n6393) rfl rfl ?_
   refine wpo_nil ?_
   refine wpf_seq_region ?_
   refine wpo_move (v := .int .i64 n6393) rfl rfl ?_
   refine wpo_lss (q := decide (n6393 < 0)) rfl rfl rfl rfl ?_
   refine wpo_nil ?_
   refine wpf_cond rfl (fun h6398 => ?_) (fun h6398 => ?_)
   ·
    have h6399 := of_decide_eq_true h6398
    refine wpf_seq_region ?_
    refine wpo_assign (v := .int .i64 (-1)) rfl rfl ?_
    refine wpo_nil ?_
    refine wpf_ret ?_
    refine blk_r ?_
    refine thn_r ?_
    refine thn_r ?_
    refine blk_r ?_
    refine thn_r ?_
    refine ⟨.int .i64 (-1), res1 rfl rfl, (-1), rfl, fun h => absurd h (by omega), by omega, by omega, hb6397⟩
   ·
    have h6400 := of_decide_eq_false h6398
    refine wpf_skip ?_
    refine blk_n ?_
    refine thn_n ?_
    refine wpf_region ?_
    refine wpo_move (v := .int .i64 (k : Int)) e6378 rfl ?_
    refine wpo_add (c := (k : Int) + 1) rfl rfl (by omega) (by omega) (by omega) rfl ?_
    refine wpo_assign (v := .int .i64 ((k : Int) + 1)) rfl rfl ?_
    refine wpo_nil ?_
    refine thn_n ?_
    exact ⟨ms.length - (k + 1), by omega, (k + 1), n6393, rfl, (by omega), (by omega), (take_len htl (mAt_get (show k < ms.length by omega)) (by omega)), rfl, rfl, e6379, hb6397⟩
  ·
   have h6401 := of_decide_eq_false h6380
   refine wpf_exit ?_
   refine thn_e ?_
   refine thn_e ?_
   refine blk_e ?_
   refine thn_n ?_
   refine wpf_seq_region ?_
   refine wpo_move (v := .int .i64 n) e6377 rfl ?_
   refine wpo_assign (v := .int .i64 n) rfl rfl ?_
   refine wpo_nil ?_
   refine wpf_ret ?_
   refine ⟨.int .i64 n, res1 rfl rfl, n, rfl, fun _ => ⟨take_len_all htl (by omega), by omega⟩, by omega, by omega, hb6375⟩

theorem toIntS_c (w : World) (xs : List Int) (a : Option Addr) (c : Nat) (hs : SlAt w a 1 (xs.map icell)) (hn : xs.length ≤ 1048576) : CallsR Try.prog 107 #[.slice a xs.length c] w (fun v w' => ∃ B : Nat, v = .slice (some ⟨B, 0, none⟩) xs.length xs.length ∧ w.heap.size ≤ B ∧ Blk w' B 3 (xs.flatMap icell).toArray ∧ w.grownBy w' none) := by
 refine calls_of_wpf (n := 22) Try.func107 rfl Try.ntmps107 rfl ?_
 have hb0 := World.grownBy.refl w none
 refine wpf_seq_region ?_
 refine wpo_assign (v := .slice none 0 0) rfl rfl ?_
 refine wpo_nil ?_
 refine wpf_seq_region ?_
 refine wpo_move (v := .slice a xs.length c) rfl rfl ?_
 refine wpo_len (by kernel_rfl) rfl rfl ?_
 refine wpo_make (g := icell) (z := (0 : Int)) (c := xs.length) mk_43 rfl wide_int (by omega) rfl rfl (by omega) (by omega) rfl ?_
 intro B6402 w6403 hN6404
 have hlB6402 := hN_ge hN6404 hb0
 have hb6405 := low0 hb0 hN6404.grw
 refine wpo_assign (v := .slice (some ⟨B6402, 0, none⟩) xs.length xs.length) rfl rfl ?_
 refine wpo_nil ?_
 refine wpf_seq ?_
 refine wpf_seq_region ?_
 refine wpo_assign (v := .int .i64 0) rfl rfl ?_
 refine wpo_nil ?_
 refine wpf_block ?_
 refine wpf_loopN (fun mm f' w' => ∃ (k : Nat), mm = xs.length - k ∧ k ≤ xs.length ∧ (fill xs (0 : Int) k).length = xs.length ∧ f' 4 = .int .i64 (k : Int) ∧ f' 0 = .slice a xs.length c ∧ f' 2 = .slice none 0 0 ∧ f' 3 = .slice (some ⟨B6402, 0, none⟩) xs.length xs.length ∧ w.grownBy w' none ∧ Blk w' B6402 3 ((fill xs (0 : Int) k).flatMap icell).toArray) (xs.length - 0) ⟨0, rfl, (Nat.zero_le _), (fill_len (Nat.zero_le _)), rfl, rfl, rfl, rfl, hb6405, (by rw [fill_zero]; exact hN6404.blk)⟩ ?_
 rintro mm f6406 w6407 ⟨k, hm6409, hk, hfl, e6410, e6411, e6412, e6413, hb6408, k6414⟩
 refine wpf_seq ?_
 refine wpf_seq_region ?_
 refine wpo_move (v := .int .i64 (k : Int)) e6410 rfl ?_
 refine wpo_move (v := .slice a xs.length c) e6411 rfl ?_
 refine wpo_len (by kernel_rfl) rfl rfl ?_
 refine wpo_lss (q := decide ((k : Int) < (xs.length : Int))) rfl rfl rfl rfl ?_
 refine wpo_nil ?_
 refine wpf_cond rfl (fun h6415 => ?_) (fun h6415 => ?_)
 ·
  have h6416 := of_decide_eq_true h6415
  refine wpf_skip ?_
  refine thn_n ?_
  refine wpf_seq ?_
  refine wpf_block ?_
  refine wpf_region ?_
  refine wpo_move (v := .slice (some ⟨B6402, 0, none⟩) xs.length xs.length) e6413 rfl ?_
  refine wpo_move (v := .int .i64 (k : Int)) e6410 rfl ?_
  refine wpo_move (v := .slice a xs.length c) e6411 rfl ?_
  refine wpo_move (v := .int .i64 (k : Int)) e6410 rfl ?_
  obtain ⟨x6417, hx6418⟩ := get_lt (l := xs) (i := k) (by omega)
  obtain ⟨b6419, q6420, o6421, ha6422, ho6423, hr6424⟩ := SlAt.at hs (map_get hx6418)
  refine wpo_indexE es_43 rfl rfl ha6422 ho6423 (by omega) (by omega) rfl ?_
  refine wpo_load1 (v := .int .i64 x6417) ot_3 rfl ((range_low hr6424 hb6408) 0 _ rfl) rfl ?_
  refine wpo_indexAddr (o' := k * 1) es_43 rfl rfl (by omega) (by omega) (by omega) rfl ?_
  obtain ⟨x6427, hx6428⟩ := get_lt (l := fill xs (0 : Int) k) (i := k) (by omega)
  refine wpo_store1 (v := .int .i64 x6417) (cs' := (((fill xs (0 : Int) k).set k x6417).flatMap icell).toArray) ot_3 rfl rfl rfl k6414 (rows_lt1 (j := 0) wide_int hx6428 (by omega)) (rows_set1 (j := 0) wide_int hx6428 x6417 (by omega) rfl) ?_
  intro w6425 hS6426
  have hb6429 := low1 hb6408 hS6426.grw (by omega)
  refine wpo_nil ?_
  refine blk_n ?_
  refine thn_n ?_
  refine wpf_region ?_
  refine wpo_move (v := .int .i64 (k : Int)) e6410 rfl ?_
  refine wpo_add (c := (k : Int) + 1) rfl rfl (by omega) (by omega) (by omega) rfl ?_
  refine wpo_assign (v := .int .i64 ((k : Int) + 1)) rfl rfl ?_
  refine wpo_nil ?_
  refine thn_n ?_
  exact ⟨xs.length - (k + 1), by omega, (k + 1), rfl, (by omega), (fill_len (by omega)), rfl, e6411, e6412, e6413, hb6429, (by have kk := hS6426.blk; rw [fill_set hx6418] at kk; exact kk)⟩
 ·
  have h6430 := of_decide_eq_false h6415
  refine wpf_exit ?_
  refine thn_e ?_
  refine thn_e ?_
  refine blk_e ?_
  refine thn_n ?_
  refine wpf_seq_region ?_
  refine wpo_move (v := .slice (some ⟨B6402, 0, none⟩) xs.length xs.length) e6413 rfl ?_
  refine wpo_assign (v := .slice (some ⟨B6402, 0, none⟩) xs.length xs.length) rfl rfl ?_
  refine wpo_nil ?_
  refine wpf_ret ?_
  refine ⟨.slice (some ⟨B6402, 0, none⟩) xs.length xs.length, res1 rfl rfl, B6402, rfl, hlB6402, ?_, hb6408⟩
  have kk := k6414
  rw [fill_all (by omega)] at kk
  exact kk

theorem toThing_c (w : World) (q : MTh) (hq : ThAt w q) (hn : q.t.slots.length ≤ 1048576 ∧ q.t.queue.length ≤ 1048576) : CallsR Try.prog 90 #[.agg #[.int .i64 q.t.kind, .int .i64 q.t.lab.s, .int .i64 q.t.lab.v, .int .i64 q.t.ve, .int .i64 q.t.num, .slice q.sa q.t.slots.length q.sc, .slice q.qa q.t.queue.length q.qc, .int .i64 q.t.to]] w (fun v w' => ∃ m : MTh, v = .agg #[.int .i64 m.t.kind, .int .i64 m.t.lab.s, .int .i64 m.t.lab.v, .int .i64 m.t.ve, .int .i64 m.t.num, .slice m.sa m.t.slots.length m.sc, .slice m.qa m.t.queue.length m.qc, .int .i64 m.t.to] ∧ m.t = q.t ∧ (∀ b, b < w.heap.size → ThX (some b) w' m) ∧ w.grownBy w' none) := by
 refine calls_of_wpf (n := 29) Try.func90 rfl Try.ntmps90 rfl ?_
 have hb0 := World.grownBy.refl w none
 refine wpf_seq_region ?_
 refine wpo_box (v := .agg #[.int .i64 q.t.kind, .int .i64 q.t.lab.s, .int .i64 q.t.lab.v, .int .i64 q.t.ve, .int .i64 q.t.num, .slice q.sa q.t.slots.length q.sc, .slice q.qa q.t.queue.length q.qc, .int .i64 q.t.to]) (cs := #[.int .i64 q.t.kind, .int .i64 q.t.lab.s, .int .i64 q.t.lab.v, .int .i64 q.t.ve, .int .i64 q.t.num, .slice q.sa q.t.slots.length q.sc, .slice q.qa q.t.queue.length q.qc, .int .i64 q.t.to]) rfl rfl rfl ?_
 intro B6431 w6432 hN6433
 have hlB6431 := hN_ge hN6433 hb0
 have hb6434 := low0 hb0 hN6433.grw
 refine wpo_alloc (cs := #[.int .i64 0, .int .i64 0, .int .i64 0, .int .i64 0, .int .i64 0, .slice none 0 0, .slice none 0 0, .int .i64 0]) zt_45 rfl rfl ?_
 intro B6435 w6436 hN6437
 have hlB6435 := hN_ge hN6437 hb6434
 have lt_B6431_B6435 := hN_gtl hN6437 (hN6433.blk).lt
 have hb6438 := low0 hb6434 hN6437.grw
 refine wpo_nil ?_
 refine wpf_seq_region ?_
 refine wpo_alloc (cs := #[.int .i64 0, .int .i64 0, .int .i64 0, .int .i64 0, .int .i64 0, .slice none 0 0, .slice none 0 0, .int .i64 0]) zt_45 rfl rfl ?_
 intro B6439 w6440 hN6441
 have hlB6439 := hN_ge hN6441 hb6438
 have k6442 := (hN6433.blk.grown0 hN6437.grw)
 have lt_B6431_B6439 := hN_gtl hN6441 (k6442).lt
 have lt_B6435_B6439 := hN_gtl hN6441 (hN6437.blk).lt
 have hb6443 := low0 hb6438 hN6441.grw
 refine wpo_nil ?_
 refine wpf_seq_region ?_
 refine wpo_fieldAddr (o' := 0) fo_111_0 rfl rfl rfl ?_
 have k6444 := (k6442.grown0 hN6441.grw)
 refine wpo_load1 (v := .int .i64 q.t.kind) ot_3 rfl (k6444.cell rfl) rfl ?_
 refine wpo_fieldAddr (o' := 0) fo_45_0 rfl rfl rfl ?_
 refine wpo_store1 (v := .int .i64 q.t.kind) (cs' := #[.int .i64 q.t.kind, .int .i64 0, .int .i64 0, .int .i64 0, .int .i64 0, .slice none 0 0, .slice none 0 0, .int .i64 0]) ot_3 rfl rfl rfl hN6441.blk (Nat.le_of_ble_eq_true rfl) rfl ?_
 intro w6445 hS6446
 have hb6447 := low1 hb6443 hS6446.grw (by omega)
 refine wpo_nil ?_
 refine wpf_seq_region ?_
 refine wpo_fieldAddr (o' := 1) fo_111_1 rfl rfl rfl ?_
 have k6448 := (k6444.grown hS6446.grw (some_ne (by omega)))
 refine wpo_loadn (vs := [.int .i64 q.t.lab.s, .int .i64 q.t.lab.v]) rt_50 rfl rfl (k6448.rangeL 1 2 rfl) rfl ?_
 refine wpo_call (vs := [.agg #[.int .i64 q.t.lab.s, .int .i64 q.t.lab.v]]) gf_27 (args_cons rfl args_nil) rfl (toLabel_c q.t.lab _) ?_
 rintro _ w6449 ⟨rfl, hg6450⟩
 have hb6451 := low0 hb6447 hg6450
 refine wpo_fieldAddr (o' := 1) fo_45_1 rfl rfl rfl ?_
 have k6452 := (hS6446.blk.grown0 hg6450)
 refine wpo_storen (vs := [.int .i64 q.t.lab.s, .int .i64 q.t.lab.v]) (cs' := #[.int .i64 q.t.kind, .int .i64 q.t.lab.s, .int .i64 q.t.lab.v, .int .i64 0, .int .i64 0, .slice none 0 0, .slice none 0 0, .int .i64 0]) rt_40 rfl rfl rfl (by simp [Value.oneCell']) k6452 (Nat.le_of_ble_eq_true rfl) rfl ?_
 intro w6453 hS6454
 have hb6455 := low1 hb6451 hS6454.grw (by omega)
 refine wpo_nil ?_
 refine wpf_seq_region ?_
 refine wpo_fieldAddr (o' := 3) fo_111_2 rfl rfl rfl ?_
 have k6456 := ((k6448.grown0 hg6450).grown hS6454.grw (some_ne (by omega)))
 refine wpo_load1 (v := .int .i64 q.t.ve) ot_3 rfl (k6456.cell rfl) rfl ?_
 refine wpo_fieldAddr (o' := 3) fo_45_2 rfl rfl rfl ?_
 refine wpo_store1 (v := .int .i64 q.t.ve) (cs' := #[.int .i64 q.t.kind, .int .i64 q.t.lab.s, .int .i64 q.t.lab.v, .int .i64 q.t.ve, .int .i64 0, .slice none 0 0, .slice none 0 0, .int .i64 0]) ot_3 rfl rfl rfl hS6454.blk (Nat.le_of_ble_eq_true rfl) rfl ?_
 intro w6457 hS6458
 have hb6459 := low1 hb6455 hS6458.grw (by omega)
 refine wpo_nil ?_
 refine wpf_seq_region ?_
 refine wpo_fieldAddr (o' := 4) fo_111_3 rfl rfl rfl ?_
 have k6460 := (k6456.grown hS6458.grw (some_ne (by omega)))
 refine wpo_load1 (v := .int .i64 q.t.num) ot_3 rfl (k6460.cell rfl) rfl ?_
 refine wpo_fieldAddr (o' := 4) fo_45_3 rfl rfl rfl ?_
 refine wpo_store1 (v := .int .i64 q.t.num) (cs' := #[.int .i64 q.t.kind, .int .i64 q.t.lab.s, .int .i64 q.t.lab.v, .int .i64 q.t.ve, .int .i64 q.t.num, .slice none 0 0, .slice none 0 0, .int .i64 0]) ot_3 rfl rfl rfl hS6458.blk (Nat.le_of_ble_eq_true rfl) rfl ?_
 intro w6461 hS6462
 have hb6463 := low1 hb6459 hS6462.grw (by omega)
 refine wpo_nil ?_
 refine wpf_seq_region ?_
 refine wpo_fieldAddr (o' := 5) fo_111_4 rfl rfl rfl ?_
 have k6464 := (k6460.grown hS6462.grw (some_ne (by omega)))
 refine wpo_load1 (v := .slice q.sa q.t.slots.length q.sc) ot_22 rfl (k6464.cell rfl) rfl ?_
 have k6465 := ((((((hN6437.blk.grown0 hN6441.grw).grown hS6446.grw (some_ne (by omega))).grown0 hg6450).grown hS6454.grw (some_ne (by omega))).grown hS6458.grw (some_ne (by omega))).grown hS6462.grw (some_ne (by omega)))
 refine wpo_call (vs := [.slice q.sa q.t.slots.length q.sc]) gf_15 (args_cons rfl args_nil) rfl (toRightS_c _ q.t.slots _ _ (ThAt.low hq hb6463).1 (by omega)) ?_
 rintro _ w6470 ⟨B6466, rfl, hge6467, k6468, hg6469⟩
 have hb6471 := low0 hb6463 hg6469
 have hlB6466 := Nat.le_trans hb6463.size hge6467
 have lt_B6431_B6466 := Nat.lt_of_lt_of_le (k6464).lt hge6467
 have lt_B6435_B6466 := Nat.lt_of_lt_of_le (k6465).lt hge6467
 have lt_B6439_B6466 := Nat.lt_of_lt_of_le (hS6462.blk).lt hge6467
 refine wpo_fieldAddr (o' := 5) fo_45_4 rfl rfl rfl ?_
 have k6472 := (hS6462.blk.grown0 hg6469)
 refine wpo_store1 (v := .slice (some ⟨B6466, 0, none⟩) q.t.slots.length q.t.slots.length) (cs' := #[.int .i64 q.t.kind, .int .i64 q.t.lab.s, .int .i64 q.t.lab.v, .int .i64 q.t.ve, .int .i64 q.t.num, .slice (some ⟨B6466, 0, none⟩) q.t.slots.length q.t.slots.length, .slice none 0 0, .int .i64 0]) ot_27 rfl rfl rfl k6472 (Nat.le_of_ble_eq_true rfl) rfl ?_
 intro w6473 hS6474
 have hb6475 := low1 hb6471 hS6474.grw (by omega)
 refine wpo_nil ?_
 refine wpf_seq_region ?_
 refine wpo_fieldAddr (o' := 6) fo_111_5 rfl rfl rfl ?_
 have k6476 := ((k6464.grown0 hg6469).grown hS6474.grw (some_ne (by omega)))
 refine wpo_load1 (v := .slice q.qa q.t.queue.length q.qc) ot_43 rfl (k6476.cell rfl) rfl ?_
 have k6477 := ((k6465.grown0 hg6469).grown hS6474.grw (some_ne (by omega)))
 have k6478 := (k6468.grown hS6474.grw (some_ne (by omega)))
 refine wpo_call (vs := [.slice q.qa q.t.queue.length q.qc]) gf_107 (args_cons rfl args_nil) rfl (toIntS_c _ q.t.queue _ _ (ThAt.low hq hb6475).2.1 (by omega)) ?_
 rintro _ w6483 ⟨B6479, rfl, hge6480, k6481, hg6482⟩
 have hb6484 := low0 hb6475 hg6482
 have hlB6479 := Nat.le_trans hb6475.size hge6480
 have lt_B6431_B6479 := Nat.lt_of_lt_of_le (k6476).lt hge6480
 have lt_B6435_B6479 := Nat.lt_of_lt_of_le (k6477).lt hge6480
 have lt_B6439_B6479 := Nat.lt_of_lt_of_le (hS6474.blk).lt hge6480
 have lt_B6466_B6479 := Nat.lt_of_lt_of_le (k6478).lt hge6480
 refine wpo_fieldAddr (o' := 6) fo_45_5 rfl rfl rfl ?_
 have k6485 := (hS6474.blk.grown0 hg6482)
 refine wpo_store1 (v := .slice (some ⟨B6479, 0, none⟩) q.t.queue.length q.t.queue.length) (cs' := #[.int .i64 q.t.kind, .int .i64 q.t.lab.s, .int .i64 q.t.lab.v, .int .i64 q.t.ve, .int .i64 q.t.num, .slice (some ⟨B6466, 0, none⟩) q.t.slots.length q.t.slots.length, .slice (some ⟨B6479, 0, none⟩) q.t.queue.length q.t.queue.length, .int .i64 0]) ot_43 rfl rfl rfl k6485 (Nat.le_of_ble_eq_true rfl) rfl ?_
 intro w6486 hS6487
 have hb6488 := low1 hb6484 hS6487.grw (by omega)
 refine wpo_nil ?_
 refine wpf_seq_region ?_
 refine wpo_fieldAddr (o' := 7) fo_111_6 rfl rfl rfl ?_
 have k6489 := ((k6476.grown0 hg6482).grown hS6487.grw (some_ne (by omega)))
 refine wpo_load1 (v := .int .i64 q.t.to) ot_3 rfl (k6489.cell rfl) rfl ?_
 refine wpo_fieldAddr (o' := 7) fo_45_6 rfl rfl rfl ?_
 refine wpo_store1 (v := .int .i64 q.t.to) (cs' := #[.int .i64 q.t.kind, .int .i64 q.t.lab.s, .int .i64 q.t.lab.v, .int .i64 q.t.ve, .int .i64 q.t.num, .slice (some ⟨B6466, 0, none⟩) q.t.slots.length q.t.slots.length, .slice (some ⟨B6479, 0, none⟩) q.t.queue.length q.t.queue.length, .int .i64 q.t.to]) ot_3 rfl rfl rfl hS6487.blk (Nat.le_of_ble_eq_true rfl) rfl ?_
 intro w6490 hS6491
 have hb6492 := low1 hb6488 hS6491.grw (by omega)
 refine wpo_nil ?_
 refine wpf_seq_region ?_
 refine wpo_loadn (vs := [.int .i64 q.t.kind, .int .i64 q.t.lab.s, .int .i64 q.t.lab.v, .int .i64 q.t.ve, .int .i64 q.t.num, .slice (some ⟨B6466, 0, none⟩) q.t.slots.length q.t.slots.length, .slice (some ⟨B6479, 0, none⟩) q.t.queue.length q.t.queue.length, .int .i64 q.t.to]) rt_45 rfl rfl (hS6491.blk.rangeL 0 8 rfl) rfl ?_
 have k6493 := (((k6477.grown0 hg6482).grown hS6487.grw (some_ne (by omega))).grown hS6491.grw (some_ne (by omega)))
 refine wpo_storen (vs := [.int .i64 q.t.kind, .int .i64 q.t.lab.s, .int .i64 q.t.lab.v, .int .i64 q.t.ve, .int .i64 q.t.num, .slice (some ⟨B6466, 0, none⟩) q.t.slots.length q.t.slots.length, .slice (some ⟨B6479, 0, none⟩) q.t.queue.length q.t.queue.length, .int .i64 q.t.to]) (cs' := #[.int .i64 q.t.kind, .int .i64 q.t.lab.s, .int .i64 q.t.lab.v, .int .i64 q.t.ve, .int .i64 q.t.num, .slice (some ⟨B6466, 0, none⟩) q.t.slots.length q.t.slots.length, .slice (some ⟨B6479, 0, none⟩) q.t.queue.length q.t.queue.length, .int .i64 q.t.to]) rt_45 rfl rfl rfl (by simp [Value.oneCell']) k6493 (Nat.le_of_ble_eq_true rfl) rfl ?_
 intro w6494 hS6495
 have hb6496 := low1 hb6492 hS6495.grw (by omega)
 refine wpo_nil ?_
 refine wpf_ret ?_
 have k6497 := ((((k6478.grown0 hg6482).grown hS6487.grw (some_ne (by omega))).grown hS6491.grw (some_ne (by omega))).grown hS6495.grw (some_ne (by omega)))
 have k6498 := (((k6481.grown hS6487.grw (some_ne (by omega))).grown hS6491.grw (some_ne (by omega))).grown hS6495.grw (some_ne (by omega)))
 refine ⟨.agg #[.int .i64 q.t.kind, .int .i64 q.t.lab.s, .int .i64 q.t.lab.v, .int .i64 q.t.ve, .int .i64 q.t.num, .slice (some ⟨B6466, 0, none⟩) q.t.slots.length q.t.slots.length, .slice (some ⟨B6479, 0, none⟩) q.t.queue.length q.t.queue.length, .int .i64 q.t.to], resC rfl (resCell_mk (vs := [.int .i64 q.t.kind, .int .i64 q.t.lab.s, .int .i64 q.t.lab.v, .int .i64 q.t.ve, .int .i64 q.t.num, .slice (some ⟨B6466, 0, none⟩) q.t.slots.length q.t.slots.length, .slice (some ⟨B6479, 0, none⟩) q.t.queue.length q.t.queue.length, .int .i64 q.t.to]) rt_45 rfl rfl (hS6495.blk.rangeL 0 8 rfl)), ⟨q.t, some ⟨B6466, 0, none⟩, q.t.slots.length, some ⟨B6479, 0, none⟩, q.t.queue.length⟩, rfl, rfl, fun b hb => ⟨SlX.rows wide_rt k6497 (some_ne (by omega)), SlX.rows wide_int k6498 (some_ne (by omega)), (fun h => by cases h), (fun h => by cases h)⟩, hb6496⟩

theorem toThingS_c (w : World) (ms : List MTh) (a : Option Addr) (c : Nat) (ht : TabAt w a ms) (hlen : TabLen ms) (hn : ms.length ≤ 1048576) : CallsR Try.prog 38 #[.slice a ms.length c] w (fun v w' => ∃ (B : Nat) (ys : List MTh), v = .slice (some ⟨B, 0, none⟩) ys.length ys.length ∧ tabT ys = tabT ms ∧ w.heap.size ≤ B ∧ Blk w' B 45 (ys.flatMap MTh.cells).toArray ∧ (∀ m ∈ ys, ThX (some B) w' m) ∧ w.grownBy w' none) := by
 refine calls_of_wpf (n := 23) Try.func38 rfl Try.ntmps38 rfl ?_
 have hb0 := World.grownBy.refl w none
 refine wpf_seq_region ?_
 refine wpo_assign (v := .slice none 0 0) rfl rfl ?_
 refine wpo_nil ?_
 refine wpf_seq_region ?_
 refine wpo_move (v := .slice a ms.length c) rfl rfl ?_
 refine wpo_len (by kernel_rfl) rfl rfl ?_
 refine wpo_make (g := MTh.cells) (z := MTh.zero) (c := ms.length) mk_54 rfl wide_mth (by omega) rfl rfl (by omega) (by omega) rfl ?_
 intro B6499 w6500 hN6501
 have hlB6499 := hN_ge hN6501 hb0
 have hb6502 := low0 hb0 hN6501.grw
 refine wpo_assign (v := .slice (some ⟨B6499, 0, none⟩) ms.length ms.length) rfl rfl ?_
 refine wpo_nil ?_
 refine wpf_seq ?_
 refine wpf_seq_region ?_
 refine wpo_assign (v := .int .i64 0) rfl rfl ?_
 refine wpo_nil ?_
 refine wpf_block ?_
 refine wpf_loopN (fun mm f' w' => ∃ (k : Nat) (ys : List MTh), mm = ms.length - k ∧ k ≤ ms.length ∧ ys.length = k ∧ tabT ys = (tabT ms).take k ∧ (∀ x ∈ ys, ThX (some B6499) w' x) ∧ f' 4 = .int .i64 (k : Int) ∧ f' 0 = .slice a ms.length c ∧ f' 2 = .slice none 0 0 ∧ f' 3 = .slice (some ⟨B6499, 0, none⟩) ms.length ms.length ∧ w.grownBy w' none ∧ Blk w' B6499 45 ((padM ms.length ys).flatMap MTh.cells).toArray) (ms.length - 0) ⟨0, ([] : List MTh), rfl, (Nat.zero_le _), rfl, rfl, (fun x hx => by simp at hx), rfl, rfl, rfl, rfl, hb6502, (by rw [padM_zero]; exact hN6501.blk)⟩ ?_
 rintro mm f6503 w6504 ⟨k, ys, hm6506, hk, hyk, hyt, hya, e6507, e6508, e6509, e6510, hb6505, k6511⟩
 refine wpf_seq ?_
 refine wpf_seq_region ?_
 refine wpo_move (v := .int .i64 (k : Int)) e6507 rfl ?_
 refine wpo_move (v := .slice a ms.length c) e6508 rfl ?_
 refine wpo_len (by kernel_rfl) rfl rfl ?_
 refine wpo_lss (q := decide ((k : Int) < (ms.length : Int))) rfl rfl rfl rfl ?_
 refine wpo_nil ?_
 refine wpf_cond rfl (fun h6512 => ?_) (fun h6512 => ?_)
 ·
  have h6513 := of_decide_eq_true h6512
  refine wpf_skip ?_
  refine thn_n ?_
  refine wpf_seq ?_
  refine wpf_block ?_
  refine wpf_region ?_
  refine wpo_move (v := .slice (some ⟨B6499, 0, none⟩) ms.length ms.length) e6510 rfl ?_
  refine wpo_move (v := .int .i64 (k : Int)) e6507 rfl ?_
  refine wpo_move (v := .slice a ms.length c) e6508 rfl ?_
  refine wpo_move (v := .int .i64 (k : Int)) e6507 rfl ?_
  obtain ⟨b6516, q6517, o6518, ha6519, ho6520, hr6521⟩ := SlAt.at (TabAt.low ht hb6505).1 (map_get (mAt_get (show k < ms.length by omega)))
  have hle6522 := TabLen.at hlen (mAt_get (show k < ms.length by omega))
  refine wpo_indexE es_61 rfl rfl ha6519 ho6520 (by omega) (by omega) rfl ?_
  refine wpo_loadn (vs := [.int .i64 ((mAt ms k).t.kind), .int .i64 ((mAt ms k).t.lab.s), .int .i64 ((mAt ms k).t.lab.v), .int .i64 ((mAt ms k).t.ve), .int .i64 ((mAt ms k).t.num), .slice ((mAt ms k).sa) ((mAt ms k).t.slots.length) ((mAt ms k).sc), .slice ((mAt ms k).qa) ((mAt ms k).t.queue.length) ((mAt ms k).qc), .int .i64 ((mAt ms k).t.to)]) rt_111 rfl rfl (range_sub hr6521 0 8 rfl) rfl ?_
  refine wpo_call (vs := [.agg #[.int .i64 ((mAt ms k).t.kind), .int .i64 ((mAt ms k).t.lab.s), .int .i64 ((mAt ms k).t.lab.v), .int .i64 ((mAt ms k).t.ve), .int .i64 ((mAt ms k).t.num), .slice ((mAt ms k).sa) ((mAt ms k).t.slots.length) ((mAt ms k).sc), .slice ((mAt ms k).qa) ((mAt ms k).t.queue.length) ((mAt ms k).qc), .int .i64 ((mAt ms k).t.to)]]) gf_90 (args_cons rfl args_nil) rfl (toThing_c _ (mAt ms k) (TabAt.th (TabAt.low ht hb6505) (mAt_get (show k < ms.length by omega))) (by omega)) ?_
  rintro _ w6527 ⟨m6523, rfl, he6524, hX6525, hg6526⟩
  have hb6528 := low0 hb6505 hg6526
  refine wpo_indexAddr (o' := k * 8) es_54 rfl rfl (by omega) (by omega) (by omega) rfl ?_
  have k6529 := (k6511.grown0 hg6526)
  refine wpo_storen (vs := [.int .i64 m6523.t.kind, .int .i64 m6523.t.lab.s, .int .i64 m6523.t.lab.v, .int .i64 m6523.t.ve, .int .i64 m6523.t.num, .slice m6523.sa m6523.t.slots.length m6523.sc, .slice m6523.qa m6523.t.queue.length m6523.qc, .int .i64 m6523.t.to]) (cs' := (((padM ms.length ys).set k m6523).flatMap MTh.cells).toArray) rt_45 rfl rfl rfl (by simp [Value.oneCell']) k6529 (rows_le wide_mth (by rw [padM_len (by omega)]; omega)) (rows_setA wide_mth (by rw [padM_len (by omega)]; omega) m6523) ?_
  intro w6530 hS6531
  have hb6532 := low1 hb6528 hS6531.grw (by omega)
  refine wpo_nil ?_
  refine blk_n ?_
  refine thn_n ?_
  refine wpf_region ?_
  refine wpo_move (v := .int .i64 (k : Int)) e6507 rfl ?_
  refine wpo_add (c := (k : Int) + 1) rfl rfl (by omega) (by omega) (by omega) rfl ?_
  refine wpo_assign (v := .int .i64 ((k : Int) + 1)) rfl rfl ?_
  refine wpo_nil ?_
  refine thn_n ?_
  exact ⟨ms.length - (k + 1), by omega, (k + 1), (ys ++ [m6523]), rfl, (by omega), (by rw [List.length_append, hyk]; rfl), (tabT_snoc hyt (mAt_get (show k < ms.length by omega)) he6524), (fun x hx => by rcases List.mem_append.1 hx with h | h; exact (((hya x h).low hg6526).grown hS6531.grw); (have e := List.mem_singleton.1 h; subst e; exact ((hX6525 B6499 (k6511).lt).grown hS6531.grw))), rfl, e6508, e6509, e6510, hb6532, (by have kk := hS6531.blk; rw [padM_set hyk (by omega)] at kk; exact kk)⟩
 ·
  have h6533 := of_decide_eq_false h6512
  refine wpf_exit ?_
  refine thn_e ?_
  refine thn_e ?_
  refine blk_e ?_
  refine thn_n ?_
  refine wpf_seq_region ?_
  refine wpo_move (v := .slice (some ⟨B6499, 0, none⟩) ms.length ms.length) e6510 rfl ?_
  refine wpo_assign (v := .slice (some ⟨B6499, 0, none⟩) ms.length ms.length) rfl rfl ?_
  refine wpo_nil ?_
  refine wpf_ret ?_
  have hyl : ys.length = ms.length := by omega
  have kk := k6511
  rw [padM_all hyl] at kk
  refine ⟨.slice (some ⟨B6499, 0, none⟩) ms.length ms.length, res1 rfl rfl, B6499, ys, by rw [hyl], tabT_all hyt (by omega), hlB6499, kk, hya, hb6505⟩

theorem eqThingS_c (w : World) (ms ps : List MTh) (a b : Option Addr) (c e : Nat) (ht : TabAt w a ms) (hp : TabAt w b ps) (hlen : TabLen ms) (hlep : TabLen ps) (hn : ms.length ≤ 1048576) (hm : ps.length ≤ 1048576) : CallsR Try.prog 39 #[.slice a ms.length c, .slice b ps.length e] w (fun v w' => v = .bool (decide (tabT ms = tabT ps)) ∧ w.grownBy w' none) := by
 refine calls_of_wpf (n := 27) Try.func39 rfl Try.ntmps39 rfl ?_
 have hb0 := World.grownBy.refl w none
 refine wpf_seq_region ?_
 refine wpo_assign (v := .bool false) rfl rfl ?_
 refine wpo_nil ?_
 refine wpf_seq ?_
 refine wpf_seq_region ?_
 refine wpo_move (v := .slice a ms.length c) rfl rfl ?_
 refine wpo_len (by kernel_rfl) rfl rfl ?_
 refine wpo_move (v := .slice b ps.length e) rfl rfl ?_
 refine wpo_len (by kernel_rfl) rfl rfl ?_
 refine wpo_neq (q := !(decide ((ms.length : Int) = (ps.length : Int)))) rfl rfl rfl rfl ?_
 refine wpo_nil ?_
 refine wpf_cond rfl (fun h6534 => ?_) (fun h6534 => ?_)
 ·
  have h6535 := nt_t h6534
  have h6536 := of_decide_eq_false h6535
  refine wpf_seq_region ?_
  refine wpo_assign (v := .bool false) rfl rfl ?_
  refine wpo_nil ?_
  refine wpf_ret ?_
  refine thn_r ?_
  refine ⟨.bool false, res1 rfl rfl, ?_, hb0⟩
  exact congrArg Value.bool (decide_eq_false (fun h => by have := tabT_length h; omega)).symm
 ·
  have h6537 := nt_f h6534
  have h6538 := of_decide_eq_true h6537
  refine wpf_skip ?_
  refine thn_n ?_
  refine wpf_seq ?_
  refine wpf_seq_region ?_
  refine wpo_assign (v := .int .i64 0) rfl rfl ?_
  refine wpo_nil ?_
  refine wpf_block ?_
  refine wpf_loopN (fun mm f' w' => ∃ (k : Nat), mm = ms.length - k ∧ k ≤ ms.length ∧ (tabT ms).take k = (tabT ps).take k ∧ f' 5 = .int .i64 (k : Int) ∧ f' 0 = .slice a ms.length c ∧ f' 1 = .slice b ps.length e ∧ w.grownBy w' none) (ms.length - 0) ⟨0, rfl, (Nat.zero_le _), rfl, rfl, rfl, rfl, hb0⟩ ?_
  rintro mm f6539 w6540 ⟨k, hm6542, hk, ha, e6543, e6544, e6545, hb6541⟩
  refine wpf_seq ?_
  refine wpf_seq_region ?_
  refine wpo_move (v := .int .i64 (k : Int)) e6543 rfl ?_
  refine wpo_move (v := .slice a ms.length c) e6544 rfl ?_
  refine wpo_len (by kernel_rfl) rfl rfl ?_
  refine wpo_lss (q := decide ((k : Int) < (ms.length : Int))) rfl rfl rfl rfl ?_
  refine wpo_nil ?_
  refine wpf_cond rfl (fun h6546 => ?_) (fun h6546 => ?_)
  ·
   have h6547 := of_decide_eq_true h6546
   refine wpf_skip ?_
   refine thn_n ?_
   refine wpf_seq ?_
   refine wpf_block ?_
   refine wpf_seq ?_
   obtain ⟨b6592, q6593, o6594, ha6595, ho6596, hr6597⟩ := SlAt.at (TabAt.low ht hb6541).1 (map_get (mAt_get (show k < ms.length by omega)))
   have hle6598 := TabLen.at hlen (mAt_get (show k < ms.length by omega))
   obtain ⟨b6601, q6602, o6603, ha6604, ho6605, hr6606⟩ := SlAt.at (TabAt.low hp hb6541).1 (map_get (mAt_get (show k < ps.length by omega)))
   have hle6607 := TabLen.at hlep (mAt_get (show k < ps.length by omega))
   refine wpf_draw (m := 8) (vals := [(17, .slice a ms.length c), (18, .int .i64 (k : Int)), (19, .pointer (some ⟨b6592, o6594, none⟩)), (20, .agg #[.int .i64 ((mAt ms k).t.kind), .int .i64 ((mAt ms k).t.lab.s), .int .i64 ((mAt ms k).t.lab.v), .int .i64 ((mAt ms k).t.ve), .int .i64 ((mAt ms k).t.num), .slice ((mAt ms k).sa) ((mAt ms k).t.slots.length) ((mAt ms k).sc), .slice ((mAt ms k).qa) ((mAt ms k).t.queue.length) ((mAt ms k).qc), .int .i64 ((mAt ms k).t.to)]), (21, .slice b ps.length e), (22, .int .i64 (k : Int)), (23, .pointer (some ⟨b6601, o6603, none⟩)), (24, .agg #[.int .i64 ((mAt ps k).t.kind), .int .i64 ((mAt ps k).t.lab.s), .int .i64 ((mAt ps k).t.lab.v), .int .i64 ((mAt ps k).t.ve), .int .i64 ((mAt ps k).t.num), .slice ((mAt ps k).sa) ((mAt ps k).t.slots.length) ((mAt ps k).sc), .slice ((mAt ps k).qa) ((mAt ps k).t.queue.length) ((mAt ps k).qc), .int .i64 ((mAt ps k).t.to)])]) (fun w' => w6540.grownBy w' none) mixed_ (by kernel_rfl) (grown_drew _) ?_ ?_
   ·
    refine yll_cons rfl (fun w6611 hi6612 => ?_) ?_
    ·
     have hb6613 := low0 hb6541 hi6612
     refine wpo_move (v := .slice a ms.length c) e6544 rfl ?_
     exact wpo_nil ⟨rfl, hi6612⟩
    refine yll_cons rfl (fun w6614 hi6615 => ?_) ?_
    ·
     have hb6616 := low0 hb6541 hi6615
     refine wpo_move (v := .int .i64 (k : Int)) e6543 rfl ?_
     exact wpo_nil ⟨rfl, hi6615⟩
    refine yll_cons rfl (fun w6617 hi6618 => ?_) ?_
    ·
     have hb6619 := low0 hb6541 hi6618
     refine wpo_indexE es_54 rfl rfl ha6595 ho6596 (by omega) (by omega) rfl ?_
     exact wpo_nil ⟨rfl, hi6618⟩
    refine yll_cons rfl (fun w6620 hi6621 => ?_) ?_
    ·
     have hb6622 := low0 hb6541 hi6621
     refine wpo_loadn (vs := [.int .i64 ((mAt ms k).t.kind), .int .i64 ((mAt ms k).t.lab.s), .int .i64 ((mAt ms k).t.lab.v), .int .i64 ((mAt ms k).t.ve), .int .i64 ((mAt ms k).t.num), .slice ((mAt ms k).sa) ((mAt ms k).t.slots.length) ((mAt ms k).sc), .slice ((mAt ms k).qa) ((mAt ms k).t.queue.length) ((mAt ms k).qc), .int .i64 ((mAt ms k).t.to)]) rt_45 rfl rfl (range_sub (range_low hr6597 hi6621) 0 8 rfl) rfl ?_
     exact wpo_nil ⟨rfl, hi6621⟩
    refine yll_cons rfl (fun w6623 hi6624 => ?_) ?_
    ·
     have hb6625 := low0 hb6541 hi6624
     refine wpo_move (v := .slice b ps.length e) e6545 rfl ?_
     exact wpo_nil ⟨rfl, hi6624⟩
    refine yll_cons rfl (fun w6626 hi6627 => ?_) ?_
    ·
     have hb6628 := low0 hb6541 hi6627
     refine wpo_move (v := .int .i64 (k : Int)) e6543 rfl ?_
     exact wpo_nil ⟨rfl, hi6627⟩
    refine yll_cons rfl (fun w6629 hi6630 => ?_) ?_
    ·
     have hb6631 := low0 hb6541 hi6630
     refine wpo_indexE es_54 rfl rfl ha6604 ho6605 (by omega) (by omega) rfl ?_
     exact wpo_nil ⟨rfl, hi6630⟩
    refine yll_cons rfl (fun w6632 hi6633 => ?_) ?_
    ·
     have hb6634 := low0 hb6541 hi6633
     refine wpo_loadn (vs := [.int .i64 ((mAt ps k).t.kind), .int .i64 ((mAt ps k).t.lab.s), .int .i64 ((mAt ps k).t.lab.v), .int .i64 ((mAt ps k).t.ve), .int .i64 ((mAt ps k).t.num), .slice ((mAt ps k).sa) ((mAt ps k).t.slots.length) ((mAt ps k).sc), .slice ((mAt ps k).qa) ((mAt ps k).t.queue.length) ((mAt ps k).qc), .int .i64 ((mAt ps k).t.to)]) rt_45 rfl rfl (range_sub (range_low hr6606 hi6633) 0 8 rfl) rfl ?_
     exact wpo_nil ⟨rfl, hi6633⟩
    exact yll_nil
   ·
    intro w6635 hi6636
    have hb6637 := low0 hb6541 hi6636
    refine wpo_call (vs := [.agg #[.int .i64 ((mAt ms k).t.kind), .int .i64 ((mAt ms k).t.lab.s), .int .i64 ((mAt ms k).t.lab.v), .int .i64 ((mAt ms k).t.ve), .int .i64 ((mAt ms k).t.num), .slice ((mAt ms k).sa) ((mAt ms k).t.slots.length) ((mAt ms k).sc), .slice ((mAt ms k).qa) ((mAt ms k).t.queue.length) ((mAt ms k).qc), .int .i64 ((mAt ms k).t.to)], .agg #[.int .i64 ((mAt ps k).t.kind), .int .i64 ((mAt ps k).t.lab.s), .int .i64 ((mAt ps k).t.lab.v), .int .i64 ((mAt ps k).t.ve), .int .i64 ((mAt ps k).t.num), .slice ((mAt ps k).sa) ((mAt ps k).t.slots.length) ((mAt ps k).sc), .slice ((mAt ps k).qa) ((mAt ps k).t.queue.length) ((mAt ps k).qc), .int .i64 ((mAt ps k).t.to)]]) gf_28 (args_cons rfl (args_cons rfl args_nil)) rfl (eqThing_c (mAt ms k) (mAt ps k) _ (TabAt.th (TabAt.low ht hb6637) (mAt_get (show k < ms.length by omega))) (TabAt.th (TabAt.low hp hb6637) (mAt_get (show k < ps.length by omega))) ⟨by first | omega | exact Nat.le_of_ble_eq_true rfl | (simp only [List.length_nil, List.length_cons, List.length_append, List.length_replicate]; omega), by first | omega | exact Nat.le_of_ble_eq_true rfl | (simp only [List.length_nil, List.length_cons, List.length_append, List.length_replicate]; omega)⟩ ⟨by first | omega | exact Nat.le_of_ble_eq_true rfl | (simp only [List.length_nil, List.length_cons, List.length_append, List.length_replicate]; omega), by first | omega | exact Nat.le_of_ble_eq_true rfl | (simp only [List.length_nil, List.length_cons, List.length_append, List.length_replicate]; omega)⟩) ?_
    rintro _ w6638 ⟨rfl, hg6639⟩
    have hb6640 := low0 hb6637 hg6639
    refine wpo_not (b' := !(decide ((mAt ms k).t = (mAt ps k).t))) rfl rfl rfl ?_
    refine wpo_nil ?_
    refine thn_n ?_
    refine wpf_cond rfl (fun h6641 => ?_) (fun h6641 => ?_)
    ·
     have h6642 := nt_t h6641
     have h6643 := of_decide_eq_false h6642
     refine wpf_seq_region ?_
     refine wpo_assign (v := .bool false) rfl rfl ?_
     refine wpo_nil ?_
     refine wpf_ret ?_
     refine blk_r ?_
     refine thn_r ?_
     refine thn_r ?_
     refine blk_r ?_
     refine thn_r ?_
     refine ⟨.bool false, res1 rfl rfl, ?_, hb6640⟩
     exact congrArg Value.bool (decide_eq_false (ne_of_at (tab_at (by omega)) (tab_at (by omega)) (of_decide_eq_false h6642))).symm
    ·
     have h6644 := nt_f h6641
     have h6645 := of_decide_eq_true h6644
     refine wpf_skip ?_
     refine blk_n ?_
     refine thn_n ?_
     refine wpf_region ?_
     refine wpo_move (v := .int .i64 (k : Int)) e6543 rfl ?_
     refine wpo_add (c := (k : Int) + 1) rfl rfl (by omega) (by omega) (by omega) rfl ?_
     refine wpo_assign (v := .int .i64 ((k : Int) + 1)) rfl rfl ?_
     refine wpo_nil ?_
     refine thn_n ?_
     exact ⟨ms.length - (k + 1), by omega, (k + 1), rfl, (by omega), (take_eq_succ ha (tab_at (by omega)) (tab_at (by omega)) (of_decide_eq_true h6644)), rfl, e6544, e6545, hb6640⟩
  ·
   have h6646 := of_decide_eq_false h6546
   refine wpf_exit ?_
   refine thn_e ?_
   refine thn_e ?_
   refine blk_e ?_
   refine thn_n ?_
   refine wpf_seq_region ?_
   refine wpo_assign (v := .bool true) rfl rfl ?_
   refine wpo_nil ?_
   refine wpf_ret ?_
   refine ⟨.bool true, res1 rfl rfl, ?_, hb6541⟩
   exact congrArg Value.bool (decide_eq_true (eq_of_take ha (by rw [tabT_len]; omega) (by rw [tabT_len]; omega))).symm

theorem thingExists_c (k : Int) (w : World) (a : Option Addr) (n c : Nat) : CallsR Try.prog 84 #[.slice a n c, .int .i64 k] w (fun v w' => v = .bool (inR k 1 (n : Int)) ∧ w.grownBy w' none) := by
 refine calls_of_wpf (n := 9) Try.func84 rfl Try.ntmps84 rfl ?_
 have hb0 := World.grownBy.refl w none
 refine wpf_seq_region ?_
 refine wpo_assign (v := .bool false) rfl rfl ?_
 refine wpo_nil ?_
 refine wpf_seq_region ?_
 refine wpo_move (v := .int .i64 k) rfl rfl ?_
 refine wpo_move (v := .slice a n c) rfl rfl ?_
 refine wpo_len (by kernel_rfl) rfl rfl ?_
 refine wpo_call (vs := [.int .i64 k, .int .i64 1, .int .i64 (n : Int)]) gf_69 (args_cons rfl (args_cons rfl (args_cons rfl args_nil))) rfl (inRange_c k 1 (n : Int) _) ?_
 rintro _ w6647 ⟨rfl, hg6648⟩
 have hb6649 := low0 hb0 hg6648
 refine wpo_assign (v := .bool (inR k 1 (n : Int))) rfl rfl ?_
 refine wpo_nil ?_
 refine wpf_ret ?_
 refine ⟨.bool (inR k 1 (n : Int)), res1 rfl rfl, ?_, hb6649⟩
 rfl

theorem kindAt_c (k kd : Int) (hk : -9223372036854775807 ≤ k) (w : World) (ms : List MTh) (a : Option Addr) (c : Nat) (ht : TabAt w a ms) (hlen : TabLen ms) (hn : ms.length ≤ 1048576) : CallsR Try.prog 103 #[.slice a ms.length c, .int .i64 k, .int .i64 kd] w (fun v w' => v = .bool (kindAt (tabT ms) k kd) ∧ w.grownBy w' none) := by
 refine calls_of_wpf (n := 20) Try.func103 rfl Try.ntmps103 rfl ?_
 have hb0 := World.grownBy.refl w none
 refine wpf_seq_region ?_
 refine wpo_assign (v := .bool false) rfl rfl ?_
 refine wpo_nil ?_
 refine wpf_seq_region_mid (fun f' w' => (f' 6 = .bool (inR k 1 (ms.length : Int) && (decide ((mAt ms ((k - 1).toNat)).t.kind = kd)))) ∧ w.grownBy w' none) ?_ ?_
 ·
  refine wpo_move (v := .slice a ms.length c) rfl rfl ?_
  refine wpo_move (v := .int .i64 k) rfl rfl ?_
  refine wpo_call (vs := [.slice a ms.length c, .int .i64 k]) gf_84 (args_cons rfl (args_cons rfl args_nil)) rfl (thingExists_c k _ _ _ _) ?_
  rintro _ w6665 ⟨rfl, hg6666⟩
  have hb6667 := low0 hb0 hg6666
  refine wpo_move (v := .bool (inR k 1 (ms.length : Int))) rfl rfl ?_
  rcases bcases (inR k 1 (ms.length : Int)) with h6668 | h6668
  ·
   have hr6669 := inR_iff.1 h6668
   refine wpo_run rfl rfl rfl h6668 ?_
   refine wpo_move (v := .slice a ms.length c) rfl rfl ?_
   refine wpo_run rfl rfl rfl h6668 ?_
   refine wpo_move (v := .int .i64 k) rfl rfl ?_
   refine wpo_run rfl rfl rfl h6668 ?_
   refine wpo_sub (c := k - 1) rfl rfl (by omega) (by omega) (by omega) rfl ?_
   refine wpo_run rfl rfl rfl h6668 ?_
   obtain ⟨b6672, q6673, o6674, ha6675, ho6676, hr6677⟩ := SlAt.at (TabAt.low ht hb6667).1 (map_get (mAt_get (show (k - 1).toNat < ms.length by omega)))
   have hle6678 := TabLen.at hlen (mAt_get (show (k - 1).toNat < ms.length by omega))
   refine wpo_indexE es_54 rfl rfl ha6675 ho6676 (by omega) (by omega) rfl ?_
   refine wpo_run rfl rfl rfl h6668 ?_
   refine wpo_fieldAddr (o' := o6674) fo_45_0 rfl rfl rfl ?_
   refine wpo_run rfl rfl rfl h6668 ?_
   refine wpo_load1 (v := .int .i64 ((mAt ms ((k - 1).toNat)).t.kind)) ot_3 rfl (hr6677 0 _ rfl) rfl ?_
   refine wpo_run rfl rfl rfl h6668 ?_
   refine wpo_move (v := .int .i64 kd) rfl rfl ?_
   refine wpo_run rfl rfl rfl h6668 ?_
   refine wpo_eql (q := decide ((mAt ms ((k - 1).toNat)).t.kind = kd)) rfl rfl rfl rfl ?_
   refine wpo_pickt (v := .bool (decide ((mAt ms ((k - 1).toNat)).t.kind = kd))) rfl h6668 rfl rfl ?_
   refine wpo_assign (v := .bool (decide ((mAt ms ((k - 1).toNat)).t.kind = kd))) rfl rfl ?_
   exact wpo_nil ⟨(congrArg Value.bool (by first | (simp only [h6668, b0, b1, b2, b3, b4, b5, b6, b7, b8, b9]; done) | simp [h6668])), hg6666⟩
  ·
   iterate 8 refine wpo_pass rfl rfl rfl h6668 rfl ?_
   refine wpo_pickf (v := .bool false) rfl h6668 rfl rfl ?_
   refine wpo_assign (v := .bool false) rfl rfl ?_
   exact wpo_nil ⟨(congrArg Value.bool (by first | (simp only [h6668, b0, b1, b2, b3, b4, b5, b6, b7, b8, b9]; done) | simp [h6668])), hg6666⟩
 ·
  rintro f6679 w6680 ⟨e6681, hg6682⟩
  have hb6683 := low0 hb0 hg6682
  refine wpf_ret ?_
  refine ⟨.bool (inR k 1 (ms.length : Int) && (decide ((mAt ms ((k - 1).toNat)).t.kind = kd))), res1 rfl e6681, ?_, hb6683⟩
  exact congrArg Value.bool kindAt_m

theorem sTableOk_c (w : World) (ms : List MTh) (a : Option Addr) (c : Nat) (ht : TabAt w a ms) (hlen : TabLen ms) (hn : ms.length ≤ 1048576) : CallsR Try.prog 34 #[.slice a ms.length c] w (fun v w' => v = .bool (tableOk (tabT ms)) ∧ w.grownBy w' none) := by
 refine calls_of_wpf (n := 92) Try.func34 rfl Try.ntmps34 rfl ?_
 have hb0 := World.grownBy.refl w none
 refine wpf_seq_region ?_
 refine wpo_assign (v := .bool false) rfl rfl ?_
 refine wpo_nil ?_
 refine wpf_seq ?_
 refine wpf_seq_region ?_
 refine wpo_assign (v := .int .i64 0) rfl rfl ?_
 refine wpo_nil ?_
 refine wpf_block ?_
 refine wpf_loopN (fun mm f' w' => ∃ (k : Nat), mm = ms.length - k ∧ k ≤ ms.length ∧ (((tabT ms).take k).all (rowOk (tabT ms))) = true ∧ f' 3 = .int .i64 (k : Int) ∧ f' 0 = .slice a ms.length c ∧ w.grownBy w' none) (ms.length - 0) ⟨0, rfl, (Nat.zero_le _), rfl, rfl, rfl, hb0⟩ ?_
 rintro mm f6684 w6685 ⟨k, hm6687, hk, hall, e6688, e6689, hb6686⟩
 refine wpf_seq ?_
 refine wpf_seq_region ?_
 refine wpo_move (v := .int .i64 (k : Int)) e6688 rfl ?_
 refine wpo_move (v := .slice a ms.length c) e6689 rfl ?_
 refine wpo_len (by kernel_rfl) rfl rfl ?_
 refine wpo_lss (q := decide ((k : Int) < (ms.length : Int))) rfl rfl rfl rfl ?_
 refine wpo_nil ?_
 refine wpf_cond rfl (fun h6690 => ?_) (fun h6690 => ?_)
 ·
  have h6691 := of_decide_eq_true h6690
  refine wpf_skip ?_
  refine thn_n ?_
  refine wpf_seq ?_
  refine wpf_block ?_
  refine wpf_seq ?_
  refine wpf_seq_region_mid (fun f' w' => (f' 0 = .slice a ms.length c ∧ f' 3 = .int .i64 (k : Int) ∧ f' 48 = .bool ((!thingOk (mAt ms k).t) || ((decide ((mAt ms k).t.kind = 5)) && ((decide ((ms.length : Int) < (mAt ms k).t.to)) || (!(decide ((mAt ms ((((mAt ms k).t.to) - 1).toNat)).t.kind = 1))))))) ∧ w6685.grownBy w' none) ?_ ?_
  ·
   refine wpo_move (v := .slice a ms.length c) e6689 rfl ?_
   refine wpo_move (v := .int .i64 (k : Int)) e6688 rfl ?_
   obtain ⟨b6727, q6728, o6729, ha6730, ho6731, hr6732⟩ := SlAt.at (TabAt.low ht hb6686).1 (map_get (mAt_get (show k < ms.length by omega)))
   have hle6733 := TabLen.at hlen (mAt_get (show k < ms.length by omega))
   refine wpo_indexE es_54 rfl rfl ha6730 ho6731 (by omega) (by omega) rfl ?_
   refine wpo_loadn (vs := [.int .i64 ((mAt ms k).t.kind), .int .i64 ((mAt ms k).t.lab.s), .int .i64 ((mAt ms k).t.lab.v), .int .i64 ((mAt ms k).t.ve), .int .i64 ((mAt ms k).t.num), .slice ((mAt ms k).sa) ((mAt ms k).t.slots.length) ((mAt ms k).sc), .slice ((mAt ms k).qa) ((mAt ms k).t.queue.length) ((mAt ms k).qc), .int .i64 ((mAt ms k).t.to)]) rt_45 rfl rfl (range_sub hr6732 0 8 rfl) rfl ?_
   refine wpo_call (vs := [.agg #[.int .i64 ((mAt ms k).t.kind), .int .i64 ((mAt ms k).t.lab.s), .int .i64 ((mAt ms k).t.lab.v), .int .i64 ((mAt ms k).t.ve), .int .i64 ((mAt ms k).t.num), .slice ((mAt ms k).sa) ((mAt ms k).t.slots.length) ((mAt ms k).sc), .slice ((mAt ms k).qa) ((mAt ms k).t.queue.length) ((mAt ms k).qc), .int .i64 ((mAt ms k).t.to)]]) gf_67 (args_cons rfl args_nil) rfl (sThingOk_c (mAt ms k) _ (TabAt.th (TabAt.low ht hb6686) (mAt_get (show k < ms.length by omega))).1 (TabAt.th (TabAt.low ht hb6686) (mAt_get (show k < ms.length by omega))).2.1 (by first | omega | exact Nat.le_of_ble_eq_true rfl | (simp only [List.length_nil, List.length_cons, List.length_append, List.length_replicate]; omega)) (by first | omega | exact Nat.le_of_ble_eq_true rfl | (simp only [List.length_nil, List.length_cons, List.length_append, List.length_replicate]; omega))) ?_
   rintro _ w6734 ⟨rfl, hg6735⟩
   have hb6736 := low0 hb6686 hg6735
   refine wpo_not (b' := !thingOk (mAt ms k).t) rfl rfl rfl ?_
   refine wpo_move (v := .bool (!thingOk (mAt ms k).t)) rfl rfl ?_
   rcases bcases (!thingOk (mAt ms k).t) with h6737 | h6737
   ·
    have h6738 := nt_t h6737
    iterate 7 refine wpo_pass rfl rfl rfl h6737 rfl ?_
    iterate 21 refine wpo_passu rfl rfl rfl rfl ?_
    refine wpo_pass rfl rfl rfl h6737 rfl ?_
    refine wpo_pickt (v := .bool true) rfl h6737 rfl rfl ?_
    exact wpo_nil ⟨⟨e6689, e6688, (congrArg Value.bool (by first | (simp only [h6690, h6737, h6738, b0, b1, b2, b3, b4, b5, b6, b7, b8, b9]; done) | simp [h6690, h6737, h6738]))⟩, hg6735⟩
   ·
    have h6739 := nt_f h6737
    refine wpo_run rfl rfl rfl h6737 ?_
    refine wpo_move (v := .slice a ms.length c) e6689 rfl ?_
    refine wpo_run rfl rfl rfl h6737 ?_
    refine wpo_move (v := .int .i64 (k : Int)) e6688 rfl ?_
    refine wpo_run rfl rfl rfl h6737 ?_
    refine wpo_indexE es_54 rfl rfl ha6730 ho6731 (by omega) (by omega) rfl ?_
    refine wpo_run rfl rfl rfl h6737 ?_
    refine wpo_fieldAddr (o' := o6729) fo_45_0 rfl rfl rfl ?_
    refine wpo_run rfl rfl rfl h6737 ?_
    refine wpo_load1 (v := .int .i64 ((mAt ms k).t.kind)) ot_3 rfl ((range_low hr6732 hg6735) 0 _ rfl) rfl ?_
    refine wpo_run rfl rfl rfl h6737 ?_
    refine wpo_eql (q := decide ((mAt ms k).t.kind = 5)) rfl rfl rfl rfl ?_
    refine wpo_run rfl rfl rfl h6737 ?_
    refine wpo_move (v := .bool (decide ((mAt ms k).t.kind = 5))) rfl rfl ?_
    rcases bcases (decide ((mAt ms k).t.kind = 5)) with h6740 | h6740
    ·
     have hgt6741 := th_gate h6739 h6740
     have h6742 := of_decide_eq_true h6740
     refine wpo_run rfl rfl rfl h6740 ?_
     refine wpo_move (v := .slice a ms.length c) e6689 rfl ?_
     refine wpo_run rfl rfl rfl h6740 ?_
     refine wpo_move (v := .int .i64 (k : Int)) e6688 rfl ?_
     refine wpo_run rfl rfl rfl h6740 ?_
     refine wpo_indexE es_54 rfl rfl ha6730 ho6731 (by omega) (by omega) rfl ?_
     refine wpo_run rfl rfl rfl h6740 ?_
     refine wpo_fieldAddr (o' := o6729 + 7) fo_45_6 rfl rfl rfl ?_
     refine wpo_run rfl rfl rfl h6740 ?_
     refine wpo_load1 (v := .int .i64 ((mAt ms k).t.to)) ot_3 rfl ((range_low hr6732 hg6735) 7 _ rfl) rfl ?_
     refine wpo_run rfl rfl rfl h6740 ?_
     refine wpo_move (v := .slice a ms.length c) e6689 rfl ?_
     refine wpo_run rfl rfl rfl h6740 ?_
     refine wpo_len (by kernel_rfl) rfl rfl ?_
     refine wpo_run rfl rfl rfl h6740 ?_
     refine wpo_gtr (q := decide ((ms.length : Int) < (mAt ms k).t.to)) rfl rfl rfl rfl ?_
     refine wpo_run rfl rfl rfl h6740 ?_
     refine wpo_move (v := .bool (decide ((ms.length : Int) < (mAt ms k).t.to))) rfl rfl ?_
     rcases bcases (decide ((ms.length : Int) < (mAt ms k).t.to)) with h6743 | h6743
     ·
      have h6744 := of_decide_eq_true h6743
      iterate 11 refine wpo_pass rfl rfl rfl h6743 rfl ?_
      refine wpo_run rfl rfl rfl h6740 ?_
      refine wpo_pickt (v := .bool true) rfl h6743 rfl rfl ?_
      refine wpo_run rfl rfl rfl h6737 ?_
      refine wpo_pickt (v := .bool true) rfl h6740 rfl rfl ?_
      refine wpo_pickf (v := .bool true) rfl h6737 rfl rfl ?_
      exact wpo_nil ⟨⟨e6689, e6688, (congrArg Value.bool (by first | (simp only [h6690, h6737, h6739, h6740, h6743, b0, b1, b2, b3, b4, b5, b6, b7, b8, b9]; done) | simp [h6690, h6737, h6739, h6740, h6743]))⟩, hg6735⟩
     ·
      have h6745 := of_decide_eq_false h6743
      refine wpo_run rfl rfl rfl h6743 ?_
      refine wpo_move (v := .slice a ms.length c) e6689 rfl ?_
      refine wpo_run rfl rfl rfl h6743 ?_
      refine wpo_move (v := .slice a ms.length c) e6689 rfl ?_
      refine wpo_run rfl rfl rfl h6743 ?_
      refine wpo_move (v := .int .i64 (k : Int)) e6688 rfl ?_
      refine wpo_run rfl rfl rfl h6743 ?_
      refine wpo_indexE es_54 rfl rfl ha6730 ho6731 (by omega) (by omega) rfl ?_
      refine wpo_run rfl rfl rfl h6743 ?_
      refine wpo_fieldAddr (o' := o6729 + 7) fo_45_6 rfl rfl rfl ?_
      refine wpo_run rfl rfl rfl h6743 ?_
      refine wpo_load1 (v := .int .i64 ((mAt ms k).t.to)) ot_3 rfl ((range_low hr6732 hg6735) 7 _ rfl) rfl ?_
      refine wpo_run rfl rfl rfl h6743 ?_
      refine wpo_sub (c := ((mAt ms k).t.to) - 1) rfl rfl (by omega) (by omega) (by omega) rfl ?_
      refine wpo_run rfl rfl rfl h6743 ?_
      obtain ⟨b6748, q6749, o6750, ha6751, ho6752, hr6753⟩ := SlAt.at (TabAt.low ht hb6736).1 (map_get (mAt_get (show (((mAt ms k).t.to) - 1).toNat < ms.length by omega)))
      have hle6754 := TabLen.at hlen (mAt_get (show (((mAt ms k).t.to) - 1).toNat < ms.length by omega))
      refine wpo_indexE es_54 rfl rfl ha6751 ho6752 (by omega) (by omega) rfl ?_
      refine wpo_run rfl rfl rfl h6743 ?_
      refine wpo_fieldAddr (o' := o6750) fo_45_0 rfl rfl rfl ?_
      refine wpo_run rfl rfl rfl h6743 ?_
      refine wpo_load1 (v := .int .i64 ((mAt ms ((((mAt ms k).t.to) - 1).toNat)).t.kind)) ot_3 rfl (hr6753 0 _ rfl) rfl ?_
      refine wpo_run rfl rfl rfl h6743 ?_
      refine wpo_neq (q := !(decide ((mAt ms ((((mAt ms k).t.to) - 1).toNat)).t.kind = 1))) rfl rfl rfl rfl ?_
      refine wpo_run rfl rfl rfl h6740 ?_
      refine wpo_pickf (v := .bool (!(decide ((mAt ms ((((mAt ms k).t.to) - 1).toNat)).t.kind = 1)))) rfl h6743 rfl rfl ?_
      refine wpo_run rfl rfl rfl h6737 ?_
      refine wpo_pickt (v := .bool (!(decide ((mAt ms ((((mAt ms k).t.to) - 1).toNat)).t.kind = 1)))) rfl h6740 rfl rfl ?_
      refine wpo_pickf (v := .bool (!(decide ((mAt ms ((((mAt ms k).t.to) - 1).toNat)).t.kind = 1)))) rfl h6737 rfl rfl ?_
      exact wpo_nil ⟨⟨e6689, e6688, (congrArg Value.bool (by first | (simp only [h6690, h6737, h6739, h6740, h6743, b0, b1, b2, b3, b4, b5, b6, b7, b8, b9]; done) | simp [h6690, h6737, h6739, h6740, h6743]))⟩, hg6735⟩
    ·
     have h6755 := of_decide_eq_false h6740
     iterate 9 refine wpo_pass rfl rfl rfl h6740 rfl ?_
     iterate 11 refine wpo_passu rfl rfl rfl rfl ?_
     refine wpo_pass rfl rfl rfl h6740 rfl ?_
     refine wpo_run rfl rfl rfl h6737 ?_
     refine wpo_pickf (v := .bool false) rfl h6740 rfl rfl ?_
     refine wpo_pickf (v := .bool false) rfl h6737 rfl rfl ?_
     exact wpo_nil ⟨⟨e6689, e6688, (congrArg Value.bool (by first | (simp only [h6690, h6737, h6739, h6740, b0, b1, b2, b3, b4, b5, b6, b7, b8, b9]; done) | simp [h6690, h6737, h6739, h6740]))⟩, hg6735⟩
  ·
   rintro f6756 w6757 ⟨⟨e6758, e6759, e6760⟩, hg6761⟩
   have hb6762 := low0 hb6686 hg6761
   refine wpf_cond e6760 (fun h6763 => ?_) (fun h6763 => ?_)
   ·
    refine wpf_seq_region ?_
    refine wpo_assign (v := .bool false) rfl rfl ?_
    refine wpo_nil ?_
    refine wpf_ret ?_
    refine thn_r ?_
    refine blk_r ?_
    refine thn_r ?_
    refine thn_r ?_
    refine blk_r ?_
    refine thn_r ?_
    refine ⟨.bool false, res1 rfl rfl, ?_, hb6762⟩
    exact congrArg Value.bool (tab_no (by omega) ((row_head rfl).1 h6763))
   ·
    have h6764 := or_l h6763
    have h6765 := nt_f h6764
    have h6766 := or_r h6763
    refine wpf_skip ?_
    refine thn_n ?_
    refine wpf_seq_region ?_
    refine wpo_assign (v := .int .i64 0) rfl rfl ?_
    refine wpo_nil ?_
    refine wpf_block ?_
    refine wpf_loopN (fun mm f' w' => ∃ (j : Nat), mm = (mAt ms k).t.slots.length - j ∧ j ≤ (mAt ms k).t.slots.length ∧ (((mAt ms k).t.slots.take j).all (rightTo (tabT ms))) = true ∧ f' 4 = .int .i64 (j : Int) ∧ f' 0 = .slice a ms.length c ∧ f' 3 = .int .i64 (k : Int) ∧ w.grownBy w' none) ((mAt ms k).t.slots.length - 0) ⟨0, rfl, (Nat.zero_le _), rfl, rfl, e6758, e6759, hb6762⟩ ?_
    rintro mm f6767 w6768 ⟨j, hm6770, hj, hrs, e6771, e6772, e6773, hb6769⟩
    have hR0 : ∀ j, j < (mAt ms k).t.slots.length → 0 ≤ (rAt (mAt ms k).t.slots j).th ∧ (rAt (mAt ms k).t.slots j).th ≤ 8 := fun j hj => th_right ((row_head rfl).2 h6763).1 (rAt_get hj)
    refine wpf_seq ?_
    refine wpf_seq_region ?_
    refine wpo_move (v := .int .i64 (j : Int)) e6771 rfl ?_
    refine wpo_move (v := .slice a ms.length c) e6772 rfl ?_
    refine wpo_move (v := .int .i64 (k : Int)) e6773 rfl ?_
    obtain ⟨b6776, q6777, o6778, ha6779, ho6780, hr6781⟩ := SlAt.at (TabAt.low ht hb6769).1 (map_get (mAt_get (show k < ms.length by omega)))
    have hle6782 := TabLen.at hlen (mAt_get (show k < ms.length by omega))
    refine wpo_indexE es_54 rfl rfl ha6779 ho6780 (by omega) (by omega) rfl ?_
    refine wpo_fieldAddr (o' := o6778 + 5) fo_45_4 rfl rfl rfl ?_
    refine wpo_load1 (v := .slice ((mAt ms k).sa) ((mAt ms k).t.slots.length) ((mAt ms k).sc)) ot_27 rfl (hr6781 5 _ rfl) rfl ?_
    refine wpo_len (by kernel_rfl) rfl rfl ?_
    refine wpo_lss (q := decide ((j : Int) < ((mAt ms k).t.slots.length : Int))) rfl rfl rfl rfl ?_
    refine wpo_nil ?_
    refine wpf_cond rfl (fun h6783 => ?_) (fun h6783 => ?_)
    ·
     have h6784 := of_decide_eq_true h6783
     refine wpf_skip ?_
     refine thn_n ?_
     refine wpf_seq ?_
     refine wpf_block ?_
     refine wpf_seq_region ?_
     refine wpo_move (v := .slice a ms.length c) e6772 rfl ?_
     refine wpo_move (v := .int .i64 (k : Int)) e6773 rfl ?_
     refine wpo_indexE es_54 rfl rfl ha6779 ho6780 (by omega) (by omega) rfl ?_
     refine wpo_fieldAddr (o' := o6778 + 5) fo_45_4 rfl rfl rfl ?_
     refine wpo_load1 (v := .slice ((mAt ms k).sa) ((mAt ms k).t.slots.length) ((mAt ms k).sc)) ot_27 rfl (hr6781 5 _ rfl) rfl ?_
     refine wpo_move (v := .int .i64 (j : Int)) e6771 rfl ?_
     obtain ⟨b6787, q6788, o6789, ha6790, ho6791, hr6792⟩ := SlAt.at (TabAt.th (TabAt.low ht hb6769) (mAt_get (show k < ms.length by omega))).1 (map_get (rAt_get (show j < (mAt ms k).t.slots.length by omega)))
     refine wpo_indexE es_27 rfl rfl ha6790 ho6791 (by omega) (by omega) rfl ?_
     refine wpo_loadn (vs := [.int .i64 ((rAt (mAt ms k).t.slots j).th), .int .i64 ((rAt (mAt ms k).t.slots j).ve), .bool ((rAt (mAt ms k).t.slots j).rd), .bool ((rAt (mAt ms k).t.slots j).wr), .bool ((rAt (mAt ms k).t.slots j).wk)]) rt_29 rfl rfl (range_sub hr6792 0 5 rfl) rfl ?_
     refine wpo_alloc (cs := #[.int .i64 0, .int .i64 0, .bool false, .bool false, .bool false]) zt_29 rfl rfl ?_
     intro B6793 w6794 hN6795
     have hlB6793 := hN_ge hN6795 hb6769
     have hb6796 := low0 hb6769 hN6795.grw
     refine wpo_storen (vs := [.int .i64 ((rAt (mAt ms k).t.slots j).th), .int .i64 ((rAt (mAt ms k).t.slots j).ve), .bool ((rAt (mAt ms k).t.slots j).rd), .bool ((rAt (mAt ms k).t.slots j).wr), .bool ((rAt (mAt ms k).t.slots j).wk)]) (cs' := #[.int .i64 ((rAt (mAt ms k).t.slots j).th), .int .i64 ((rAt (mAt ms k).t.slots j).ve), .bool ((rAt (mAt ms k).t.slots j).rd), .bool ((rAt (mAt ms k).t.slots j).wr), .bool ((rAt (mAt ms k).t.slots j).wk)]) rt_29 rfl rfl rfl (by simp [Value.oneCell']) hN6795.blk (Nat.le_of_ble_eq_true rfl) rfl ?_
     intro w6797 hS6798
     have hb6799 := low1 hb6796 hS6798.grw (by omega)
     refine wpo_nil ?_
     refine wpf_seq_mid (fun f' w' => (f' 0 = .slice a ms.length c ∧ f' 3 = .int .i64 (k : Int) ∧ f' 4 = .int .i64 (j : Int) ∧ f' 88 = .bool ((decide ((ms.length : Int) < (rAt (mAt ms k).t.slots j).th)) || ((decide (0 < (rAt (mAt ms k).t.slots j).th)) && (decide ((mAt ms ((((rAt (mAt ms k).t.slots j).th) - 1).toNat)).t.ve < (rAt (mAt ms k).t.slots j).ve))))) ∧ w6797.grownBy w' none) ?_ ?_
     ·
      rcases bcases (decide ((ms.length : Int) < (rAt (mAt ms k).t.slots j).th)) with h6809 | h6809
      ·
       have h6810 := of_decide_eq_true h6809
       refine wpf_draw (m := 19) (vals := [(67, .pointer (some ⟨B6793, 0, none⟩)), (68, .int .i64 ((rAt (mAt ms k).t.slots j).th)), (69, .slice a ms.length c), (70, .int .i64 (ms.length : Int)), (71, .bool (decide ((ms.length : Int) < (rAt (mAt ms k).t.slots j).th))), (72, .bool (decide ((ms.length : Int) < (rAt (mAt ms k).t.slots j).th))), (73, undef), (74, undef), (75, undef), (76, undef), (77, undef), (78, undef), (79, undef), (80, undef), (81, undef), (82, undef), (83, undef), (84, undef), (85, undef)]) (fun w' => w6797.grownBy w' none) mixed_ (by kernel_rfl) (grown_drew _) ?_ ?_
       ·
        refine yll_cons rfl (fun w6811 hi6812 => ?_) ?_
        ·
         have hb6813 := low0 hb6799 hi6812
         refine wpo_fieldAddr (o' := 0) fo_29_0 rfl rfl rfl ?_
         exact wpo_nil ⟨rfl, hi6812⟩
        refine yll_cons rfl (fun w6814 hi6815 => ?_) ?_
        ·
         have hb6816 := low0 hb6799 hi6815
         have k6817 := (hS6798.blk.grown0 hi6815)
         refine wpo_load1 (v := .int .i64 ((rAt (mAt ms k).t.slots j).th)) ot_3 rfl (k6817.cell rfl) rfl ?_
         exact wpo_nil ⟨rfl, hi6815⟩
        refine yll_cons rfl (fun w6818 hi6819 => ?_) ?_
        ·
         have hb6820 := low0 hb6799 hi6819
         refine wpo_move (v := .slice a ms.length c) e6772 rfl ?_
         exact wpo_nil ⟨rfl, hi6819⟩
        refine yll_cons rfl (fun w6821 hi6822 => ?_) ?_
        ·
         have hb6823 := low0 hb6799 hi6822
         refine wpo_len (by kernel_rfl) rfl rfl ?_
         exact wpo_nil ⟨rfl, hi6822⟩
        refine yll_cons rfl (fun w6824 hi6825 => ?_) ?_
        ·
         have hb6826 := low0 hb6799 hi6825
         refine wpo_gtr (q := decide ((ms.length : Int) < (rAt (mAt ms k).t.slots j).th)) rfl rfl rfl rfl ?_
         exact wpo_nil ⟨rfl, hi6825⟩
        refine yll_cons rfl (fun w6827 hi6828 => ?_) ?_
        ·
         have hb6829 := low0 hb6799 hi6828
         refine wpo_move (v := .bool (decide ((ms.length : Int) < (rAt (mAt ms k).t.slots j).th))) rfl rfl ?_
         exact wpo_nil ⟨rfl, hi6828⟩
        refine yll_cons rfl (fun w6830 hi6831 => ?_) ?_
        ·
         have hb6832 := low0 hb6799 hi6831
         refine wpo_pass rfl rfl rfl h6809 rfl ?_
         exact wpo_nil ⟨rfl, hi6831⟩
        refine yll_cons rfl (fun w6833 hi6834 => ?_) ?_
        ·
         have hb6835 := low0 hb6799 hi6834
         refine wpo_pass rfl rfl rfl h6809 rfl ?_
         exact wpo_nil ⟨rfl, hi6834⟩
        refine yll_cons rfl (fun w6836 hi6837 => ?_) ?_
        ·
         have hb6838 := low0 hb6799 hi6837
         refine wpo_pass rfl rfl rfl h6809 rfl ?_
         exact wpo_nil ⟨rfl, hi6837⟩
        refine yll_cons rfl (fun w6839 hi6840 => ?_) ?_
        ·
         have hb6841 := low0 hb6799 hi6840
         refine wpo_pass rfl rfl rfl h6809 rfl ?_
         exact wpo_nil ⟨rfl, hi6840⟩
        refine yll_cons rfl (fun w6842 hi6843 => ?_) ?_
        ·
         have hb6844 := low0 hb6799 hi6843
         refine wpo_passu rfl rfl rfl rfl ?_
         exact wpo_nil ⟨rfl, hi6843⟩
        refine yll_cons rfl (fun w6845 hi6846 => ?_) ?_
        ·
         have hb6847 := low0 hb6799 hi6846
         refine wpo_passu rfl rfl rfl rfl ?_
         exact wpo_nil ⟨rfl, hi6846⟩
        refine yll_cons rfl (fun w6848 hi6849 => ?_) ?_
        ·
         have hb6850 := low0 hb6799 hi6849
         refine wpo_passu rfl rfl rfl rfl ?_
         exact wpo_nil ⟨rfl, hi6849⟩
        refine yll_cons rfl (fun w6851 hi6852 => ?_) ?_
        ·
         have hb6853 := low0 hb6799 hi6852
         refine wpo_passu rfl rfl rfl rfl ?_
         exact wpo_nil ⟨rfl, hi6852⟩
        refine yll_cons rfl (fun w6854 hi6855 => ?_) ?_
        ·
         have hb6856 := low0 hb6799 hi6855
         refine wpo_passu rfl rfl rfl rfl ?_
         exact wpo_nil ⟨rfl, hi6855⟩
        refine yll_cons rfl (fun w6857 hi6858 => ?_) ?_
        ·
         have hb6859 := low0 hb6799 hi6858
         refine wpo_passu rfl rfl rfl rfl ?_
         exact wpo_nil ⟨rfl, hi6858⟩
        refine yll_cons rfl (fun w6860 hi6861 => ?_) ?_
        ·
         have hb6862 := low0 hb6799 hi6861
         refine wpo_passu rfl rfl rfl rfl ?_
         exact wpo_nil ⟨rfl, hi6861⟩
        refine yll_cons rfl (fun w6863 hi6864 => ?_) ?_
        ·
         have hb6865 := low0 hb6799 hi6864
         refine wpo_passu rfl rfl rfl rfl ?_
         exact wpo_nil ⟨rfl, hi6864⟩
        refine yll_cons rfl (fun w6866 hi6867 => ?_) ?_
        ·
         have hb6868 := low0 hb6799 hi6867
         refine wpo_passu rfl rfl rfl rfl ?_
         exact wpo_nil ⟨rfl, hi6867⟩
        exact yll_nil
       ·
        intro w6869 hi6870
        have hb6871 := low0 hb6799 hi6870
        refine wpo_passu rfl rfl rfl rfl ?_
        refine wpo_pass rfl rfl rfl h6809 rfl ?_
        refine wpo_pickt (v := .bool true) rfl h6809 rfl rfl ?_
        exact wpo_nil (thn_n ⟨⟨e6772, e6773, e6771, (congrArg Value.bool (by first | (simp only [h6690, h6763, h6764, h6765, h6766, h6783, h6809, b0, b1, b2, b3, b4, b5, b6, b7, b8, b9]; done) | simp [h6690, h6763, h6764, h6765, h6766, h6783, h6809]))⟩, hi6870⟩)
      ·
       have h6872 := of_decide_eq_false h6809
       rcases bcases (decide (0 < (rAt (mAt ms k).t.slots j).th)) with h6873 | h6873
       ·
        have h6874 := of_decide_eq_true h6873
        obtain ⟨b6886, q6887, o6888, ha6889, ho6890, hr6891⟩ := SlAt.at (TabAt.low ht hb6799).1 (map_get (mAt_get (show (((rAt (mAt ms k).t.slots j).th) - 1).toNat < ms.length by omega)))
        have hle6892 := TabLen.at hlen (mAt_get (show (((rAt (mAt ms k).t.slots j).th) - 1).toNat < ms.length by omega))
        refine wpf_draw (m := 19) (vals := [(67, .pointer (some ⟨B6793, 0, none⟩)), (68, .int .i64 ((rAt (mAt ms k).t.slots j).th)), (69, .slice a ms.length c), (70, .int .i64 (ms.length : Int)), (71, .bool (decide ((ms.length : Int) < (rAt (mAt ms k).t.slots j).th))), (72, .bool (decide ((ms.length : Int) < (rAt (mAt ms k).t.slots j).th))), (73, .pointer (some ⟨B6793, 0, none⟩)), (74, .int .i64 ((rAt (mAt ms k).t.slots j).th)), (75, .bool (decide (0 < (rAt (mAt ms k).t.slots j).th))), (76, .bool (decide (0 < (rAt (mAt ms k).t.slots j).th))), (77, .pointer (some ⟨B6793, 1, none⟩)), (78, .int .i64 ((rAt (mAt ms k).t.slots j).ve)), (79, .slice a ms.length c), (80, .pointer (some ⟨B6793, 0, none⟩)), (81, .int .i64 ((rAt (mAt ms k).t.slots j).th)), (82, .int .i64 (((rAt (mAt ms k).t.slots j).th) - 1)), (83, .pointer (some ⟨b6886, o6888, none⟩)), (84, .pointer (some ⟨b6886, o6888 + 3, none⟩)), (85, .int .i64 ((mAt ms ((((rAt (mAt ms k).t.slots j).th) - 1).toNat)).t.ve))]) (fun w' => w6797.grownBy w' none) mixed_ (by kernel_rfl) (grown_drew _) ?_ ?_
        ·
         refine yll_cons rfl (fun w6893 hi6894 => ?_) ?_
         ·
          have hb6895 := low0 hb6799 hi6894
          refine wpo_fieldAddr (o' := 0) fo_29_0 rfl rfl rfl ?_
          exact wpo_nil ⟨rfl, hi6894⟩
         refine yll_cons rfl (fun w6896 hi6897 => ?_) ?_
         ·
          have hb6898 := low0 hb6799 hi6897
          have k6899 := (hS6798.blk.grown0 hi6897)
          refine wpo_load1 (v := .int .i64 ((rAt (mAt ms k).t.slots j).th)) ot_3 rfl (k6899.cell rfl) rfl ?_
          exact wpo_nil ⟨rfl, hi6897⟩
         refine yll_cons rfl (fun w6900 hi6901 => ?_) ?_
         ·
          have hb6902 := low0 hb6799 hi6901
          refine wpo_move (v := .slice a ms.length c) e6772 rfl ?_
          exact wpo_nil ⟨rfl, hi6901⟩
         refine yll_cons rfl (fun w6903 hi6904 => ?_) ?_
         ·
          have hb6905 := low0 hb6799 hi6904
          refine wpo_len (by kernel_rfl) rfl rfl ?_
          exact wpo_nil ⟨rfl, hi6904⟩
         refine yll_cons rfl (fun w6906 hi6907 => ?_) ?_
         ·
          have hb6908 := low0 hb6799 hi6907
          refine wpo_gtr (q := decide ((ms.length : Int) < (rAt (mAt ms k).t.slots j).th)) rfl rfl rfl rfl ?_
          exact wpo_nil ⟨rfl, hi6907⟩
         refine yll_cons rfl (fun w6909 hi6910 => ?_) ?_
         ·
          have hb6911 := low0 hb6799 hi6910
          refine wpo_move (v := .bool (decide ((ms.length : Int) < (rAt (mAt ms k).t.slots j).th))) rfl rfl ?_
          exact wpo_nil ⟨rfl, hi6910⟩
         refine yll_cons rfl (fun w6912 hi6913 => ?_) ?_
         ·
          have hb6914 := low0 hb6799 hi6913
          refine wpo_run rfl rfl rfl h6809 ?_
          refine wpo_fieldAddr (o' := 0) fo_29_0 rfl rfl rfl ?_
          exact wpo_nil ⟨rfl, hi6913⟩
         refine yll_cons rfl (fun w6915 hi6916 => ?_) ?_
         ·
          have hb6917 := low0 hb6799 hi6916
          refine wpo_run rfl rfl rfl h6809 ?_
          have k6918 := (hS6798.blk.grown0 hi6916)
          refine wpo_load1 (v := .int .i64 ((rAt (mAt ms k).t.slots j).th)) ot_3 rfl (k6918.cell rfl) rfl ?_
          exact wpo_nil ⟨rfl, hi6916⟩
         refine yll_cons rfl (fun w6919 hi6920 => ?_) ?_
         ·
          have hb6921 := low0 hb6799 hi6920
          refine wpo_run rfl rfl rfl h6809 ?_
          refine wpo_gtr (q := decide (0 < (rAt (mAt ms k).t.slots j).th)) rfl rfl rfl rfl ?_
          exact wpo_nil ⟨rfl, hi6920⟩
         refine yll_cons rfl (fun w6922 hi6923 => ?_) ?_
         ·
          have hb6924 := low0 hb6799 hi6923
          refine wpo_run rfl rfl rfl h6809 ?_
          refine wpo_move (v := .bool (decide (0 < (rAt (mAt ms k).t.slots j).th))) rfl rfl ?_
          exact wpo_nil ⟨rfl, hi6923⟩
         refine yll_cons rfl (fun w6925 hi6926 => ?_) ?_
         ·
          have hb6927 := low0 hb6799 hi6926
          refine wpo_run rfl rfl rfl h6873 ?_
          refine wpo_fieldAddr (o' := 1) fo_29_1 rfl rfl rfl ?_
          exact wpo_nil ⟨rfl, hi6926⟩
         refine yll_cons rfl (fun w6928 hi6929 => ?_) ?_
         ·
          have hb6930 := low0 hb6799 hi6929
          refine wpo_run rfl rfl rfl h6873 ?_
          have k6931 := (hS6798.blk.grown0 hi6929)
          refine wpo_load1 (v := .int .i64 ((rAt (mAt ms k).t.slots j).ve)) ot_3 rfl (k6931.cell rfl) rfl ?_
          exact wpo_nil ⟨rfl, hi6929⟩
         refine yll_cons rfl (fun w6932 hi6933 => ?_) ?_
         ·
          have hb6934 := low0 hb6799 hi6933
          refine wpo_run rfl rfl rfl h6873 ?_
          refine wpo_move (v := .slice a ms.length c) e6772 rfl ?_
          exact wpo_nil ⟨rfl, hi6933⟩
         refine yll_cons rfl (fun w6935 hi6936 => ?_) ?_
         ·
          have hb6937 := low0 hb6799 hi6936
          refine wpo_run rfl rfl rfl h6873 ?_
          refine wpo_fieldAddr (o' := 0) fo_29_0 rfl rfl rfl ?_
          exact wpo_nil ⟨rfl, hi6936⟩
         refine yll_cons rfl (fun w6938 hi6939 => ?_) ?_
         ·
          have hb6940 := low0 hb6799 hi6939
          refine wpo_run rfl rfl rfl h6873 ?_
          have k6941 := (hS6798.blk.grown0 hi6939)
          refine wpo_load1 (v := .int .i64 ((rAt (mAt ms k).t.slots j).th)) ot_3 rfl (k6941.cell rfl) rfl ?_
          exact wpo_nil ⟨rfl, hi6939⟩
         refine yll_cons rfl (fun w6942 hi6943 => ?_) ?_
         ·
          have hb6944 := low0 hb6799 hi6943
          refine wpo_run rfl rfl rfl h6873 ?_
          refine wpo_sub (c := ((rAt (mAt ms k).t.slots j).th) - 1) rfl rfl (by omega) (by omega) (by omega) rfl ?_
          exact wpo_nil ⟨rfl, hi6943⟩
         refine yll_cons rfl (fun w6945 hi6946 => ?_) ?_
         ·
          have hb6947 := low0 hb6799 hi6946
          refine wpo_run rfl rfl rfl h6873 ?_
          refine wpo_indexE es_54 rfl rfl ha6889 ho6890 (by omega) (by omega) rfl ?_
          exact wpo_nil ⟨rfl, hi6946⟩
         refine yll_cons rfl (fun w6948 hi6949 => ?_) ?_
         ·
          have hb6950 := low0 hb6799 hi6949
          refine wpo_run rfl rfl rfl h6873 ?_
          refine wpo_fieldAddr (o' := o6888 + 3) fo_45_2 rfl rfl rfl ?_
          exact wpo_nil ⟨rfl, hi6949⟩
         refine yll_cons rfl (fun w6951 hi6952 => ?_) ?_
         ·
          have hb6953 := low0 hb6799 hi6952
          refine wpo_run rfl rfl rfl h6873 ?_
          refine wpo_load1 (v := .int .i64 ((mAt ms ((((rAt (mAt ms k).t.slots j).th) - 1).toNat)).t.ve)) ot_3 rfl ((range_low hr6891 hi6952) 3 _ rfl) rfl ?_
          exact wpo_nil ⟨rfl, hi6952⟩
         exact yll_nil
        ·
         intro w6954 hi6955
         have hb6956 := low0 hb6799 hi6955
         refine wpo_run rfl rfl rfl h6873 ?_
         refine wpo_gtr (q := decide ((mAt ms ((((rAt (mAt ms k).t.slots j).th) - 1).toNat)).t.ve < (rAt (mAt ms k).t.slots j).ve)) rfl rfl rfl rfl ?_
         refine wpo_run rfl rfl rfl h6809 ?_
         refine wpo_pickt (v := .bool (decide ((mAt ms ((((rAt (mAt ms k).t.slots j).th) - 1).toNat)).t.ve < (rAt (mAt ms k).t.slots j).ve))) rfl h6873 rfl rfl ?_
         refine wpo_pickf (v := .bool (decide ((mAt ms ((((rAt (mAt ms k).t.slots j).th) - 1).toNat)).t.ve < (rAt (mAt ms k).t.slots j).ve))) rfl h6809 rfl rfl ?_
         exact wpo_nil (thn_n ⟨⟨e6772, e6773, e6771, (congrArg Value.bool (by first | (simp only [h6690, h6763, h6764, h6765, h6766, h6783, h6809, h6873, b0, b1, b2, b3, b4, b5, b6, b7, b8, b9]; done) | simp [h6690, h6763, h6764, h6765, h6766, h6783, h6809, h6873]))⟩, hi6955⟩)
       ·
        have h6957 := of_decide_eq_false h6873
        refine wpf_draw (m := 19) (vals := [(67, .pointer (some ⟨B6793, 0, none⟩)), (68, .int .i64 ((rAt (mAt ms k).t.slots j).th)), (69, .slice a ms.length c), (70, .int .i64 (ms.length : Int)), (71, .bool (decide ((ms.length : Int) < (rAt (mAt ms k).t.slots j).th))), (72, .bool (decide ((ms.length : Int) < (rAt (mAt ms k).t.slots j).th))), (73, .pointer (some ⟨B6793, 0, none⟩)), (74, .int .i64 ((rAt (mAt ms k).t.slots j).th)), (75, .bool (decide (0 < (rAt (mAt ms k).t.slots j).th))), (76, .bool (decide (0 < (rAt (mAt ms k).t.slots j).th))), (77, undef), (78, undef), (79, undef), (80, undef), (81, undef), (82, undef), (83, undef), (84, undef), (85, undef)]) (fun w' => w6797.grownBy w' none) mixed_ (by kernel_rfl) (grown_drew _) ?_ ?_
        ·
         refine yll_cons rfl (fun w6958 hi6959 => ?_) ?_
         ·
          have hb6960 := low0 hb6799 hi6959
          refine wpo_fieldAddr (o' := 0) fo_29_0 rfl rfl rfl ?_
          exact wpo_nil ⟨rfl, hi6959⟩
         refine yll_cons rfl (fun w6961 hi6962 => ?_) ?_
         ·
          have hb6963 := low0 hb6799 hi6962
          have k6964 := (hS6798.blk.grown0 hi6962)
          refine wpo_load1 (v := .int .i64 ((rAt (mAt ms k).t.slots j).th)) ot_3 rfl (k6964.cell rfl) rfl ?_
          exact wpo_nil ⟨rfl, hi6962⟩
         refine yll_cons rfl (fun w6965 hi6966 => ?_) ?_
         ·
          have hb6967 := low0 hb6799 hi6966
          refine wpo_move (v := .slice a ms.length c) e6772 rfl ?_
          exact wpo_nil ⟨rfl, hi6966⟩
         refine yll_cons rfl (fun w6968 hi6969 => ?_) ?_
         ·
          have hb6970 := low0 hb6799 hi6969
          refine wpo_len (by kernel_rfl) rfl rfl ?_
          exact wpo_nil ⟨rfl, hi6969⟩
         refine yll_cons rfl (fun w6971 hi6972 => ?_) ?_
         ·
          have hb6973 := low0 hb6799 hi6972
          refine wpo_gtr (q := decide ((ms.length : Int) < (rAt (mAt ms k).t.slots j).th)) rfl rfl rfl rfl ?_
          exact wpo_nil ⟨rfl, hi6972⟩
         refine yll_cons rfl (fun w6974 hi6975 => ?_) ?_
         ·
          have hb6976 := low0 hb6799 hi6975
          refine wpo_move (v := .bool (decide ((ms.length : Int) < (rAt (mAt ms k).t.slots j).th))) rfl rfl ?_
          exact wpo_nil ⟨rfl, hi6975⟩
         refine yll_cons rfl (fun w6977 hi6978 => ?_) ?_
         ·
          have hb6979 := low0 hb6799 hi6978
          refine wpo_run rfl rfl rfl h6809 ?_
          refine wpo_fieldAddr (o' := 0) fo_29_0 rfl rfl rfl ?_
          exact wpo_nil ⟨rfl, hi6978⟩
         refine yll_cons rfl (fun w6980 hi6981 => ?_) ?_
         ·
          have hb6982 := low0 hb6799 hi6981
          refine wpo_run rfl rfl rfl h6809 ?_
          have k6983 := (hS6798.blk.grown0 hi6981)
          refine wpo_load1 (v := .int .i64 ((rAt (mAt ms k).t.slots j).th)) ot_3 rfl (k6983.cell rfl) rfl ?_
          exact wpo_nil ⟨rfl, hi6981⟩
         refine yll_cons rfl (fun w6984 hi6985 => ?_) ?_
         ·
          have hb6986 := low0 hb6799 hi6985
          refine wpo_run rfl rfl rfl h6809 ?_
          refine wpo_gtr (q := decide (0 < (rAt (mAt ms k).t.slots j).th)) rfl rfl rfl rfl ?_
          exact wpo_nil ⟨rfl, hi6985⟩
         refine yll_cons rfl (fun w6987 hi6988 => ?_) ?_
         ·
          have hb6989 := low0 hb6799 hi6988
          refine wpo_run rfl rfl rfl h6809 ?_
          refine wpo_move (v := .bool (decide (0 < (rAt (mAt ms k).t.slots j).th))) rfl rfl ?_
          exact wpo_nil ⟨rfl, hi6988⟩
         refine yll_cons rfl (fun w6990 hi6991 => ?_) ?_
         ·
          have hb6992 := low0 hb6799 hi6991
          refine wpo_pass rfl rfl rfl h6873 rfl ?_
          exact wpo_nil ⟨rfl, hi6991⟩
         refine yll_cons rfl (fun w6993 hi6994 => ?_) ?_
         ·
          have hb6995 := low0 hb6799 hi6994
          refine wpo_pass rfl rfl rfl h6873 rfl ?_
          exact wpo_nil ⟨rfl, hi6994⟩
         refine yll_cons rfl (fun w6996 hi6997 => ?_) ?_
         ·
          have hb6998 := low0 hb6799 hi6997
          refine wpo_pass rfl rfl rfl h6873 rfl ?_
          exact wpo_nil ⟨rfl, hi6997⟩
         refine yll_cons rfl (fun w6999 hi7000 => ?_) ?_
         ·
          have hb7001 := low0 hb6799 hi7000
          refine wpo_pass rfl rfl rfl h6873 rfl ?_
          exact wpo_nil ⟨rfl, hi7000⟩
         refine yll_cons rfl (fun w7002 hi7003 => ?_) ?_
         ·
          have hb7004 := low0 hb6799 hi7003
          refine wpo_pass rfl rfl rfl h6873 rfl ?_
          exact wpo_nil ⟨rfl, hi7003⟩
         refine yll_cons rfl (fun w7005 hi7006 => ?_) ?_
         ·
          have hb7007 := low0 hb6799 hi7006
          refine wpo_pass rfl rfl rfl h6873 rfl ?_
          exact wpo_nil ⟨rfl, hi7006⟩
         refine yll_cons rfl (fun w7008 hi7009 => ?_) ?_
         ·
          have hb7010 := low0 hb6799 hi7009
          refine wpo_pass rfl rfl rfl h6873 rfl ?_
          exact wpo_nil ⟨rfl, hi7009⟩
         refine yll_cons rfl (fun w7011 hi7012 => ?_) ?_
         ·
          have hb7013 := low0 hb6799 hi7012
          refine wpo_pass rfl rfl rfl h6873 rfl ?_
          exact wpo_nil ⟨rfl, hi7012⟩
         refine yll_cons rfl (fun w7014 hi7015 => ?_) ?_
         ·
          have hb7016 := low0 hb6799 hi7015
          refine wpo_pass rfl rfl rfl h6873 rfl ?_
          exact wpo_nil ⟨rfl, hi7015⟩
         exact yll_nil
        ·
         intro w7017 hi7018
         have hb7019 := low0 hb6799 hi7018
         refine wpo_pass rfl rfl rfl h6873 rfl ?_
         refine wpo_run rfl rfl rfl h6809 ?_
         refine wpo_pickf (v := .bool false) rfl h6873 rfl rfl ?_
         refine wpo_pickf (v := .bool false) rfl h6809 rfl rfl ?_
         exact wpo_nil (thn_n ⟨⟨e6772, e6773, e6771, (congrArg Value.bool (by first | (simp only [h6690, h6763, h6764, h6765, h6766, h6783, h6809, h6873, b0, b1, b2, b3, b4, b5, b6, b7, b8, b9]; done) | simp [h6690, h6763, h6764, h6765, h6766, h6783, h6809, h6873]))⟩, hi7018⟩)
     ·
      rintro f7020 w7021 ⟨⟨e7022, e7023, e7024, e7025⟩, hg7026⟩
      have hb7027 := low0 hb6799 hg7026
      refine wpf_cond e7025 (fun h7028 => ?_) (fun h7028 => ?_)
      ·
       refine wpf_seq_region ?_
       refine wpo_assign (v := .bool false) rfl rfl ?_
       refine wpo_nil ?_
       refine wpf_ret ?_
       refine blk_r ?_
       refine thn_r ?_
       refine thn_r ?_
       refine blk_r ?_
       refine blk_r ?_
       refine thn_r ?_
       refine thn_r ?_
       refine blk_r ?_
       refine thn_r ?_
       refine ⟨.bool false, res1 rfl rfl, ?_, hb7027⟩
       exact congrArg Value.bool (tab_no (by omega) (row_no1 (rAt_get (by omega)) (nt_t ((row_right (th_right ((row_head rfl).2 h6763).1 (rAt_get (by omega))).1).symm.trans h7028))))
      ·
       have h7029 := or_l h7028
       have h7030 := of_decide_eq_false h7029
       have h7031 := or_r h7028
       refine wpf_skip ?_
       refine blk_n ?_
       refine thn_n ?_
       refine wpf_region ?_
       refine wpo_move (v := .int .i64 (j : Int)) e7024 rfl ?_
       refine wpo_add (c := (j : Int) + 1) rfl rfl (by omega) (by omega) (by omega) rfl ?_
       refine wpo_assign (v := .int .i64 ((j : Int) + 1)) rfl rfl ?_
       refine wpo_nil ?_
       refine thn_n ?_
       exact ⟨(mAt ms k).t.slots.length - (j + 1), by omega, (j + 1), rfl, (by omega), (take_all_succ hrs (rAt_get (by omega)) (nt_f ((row_right (th_right ((row_head rfl).2 h6763).1 (rAt_get (by omega))).1).symm.trans h7028))), rfl, e7022, e7023, hb7027⟩
    ·
     have h7032 := of_decide_eq_false h6783
     refine wpf_exit ?_
     refine thn_e ?_
     refine thn_e ?_
     refine blk_e ?_
     refine blk_n ?_
     refine thn_n ?_
     refine wpf_region ?_
     refine wpo_move (v := .int .i64 (k : Int)) e6773 rfl ?_
     refine wpo_add (c := (k : Int) + 1) rfl rfl (by omega) (by omega) (by omega) rfl ?_
     refine wpo_assign (v := .int .i64 ((k : Int) + 1)) rfl rfl ?_
     refine wpo_nil ?_
     refine thn_n ?_
     exact ⟨ms.length - (k + 1), by omega, (k + 1), rfl, (by omega), (take_all_succ hall (tab_at (by omega)) (row_yes ((row_head rfl).2 h6763).1 ((row_head rfl).2 h6763).2 hrs (by omega))), rfl, e6772, hb6769⟩
 ·
  have h7033 := of_decide_eq_false h6690
  refine wpf_exit ?_
  refine thn_e ?_
  refine thn_e ?_
  refine blk_e ?_
  refine thn_n ?_
  refine wpf_seq_region ?_
  refine wpo_move (v := .slice a ms.length c) e6689 rfl ?_
  refine wpo_len (by kernel_rfl) rfl rfl ?_
  refine wpo_call (vs := [.int .i64 (ms.length : Int), .int .i64 1, .int .i64 8]) gf_85 (args_cons rfl (args_cons rfl (args_cons rfl args_nil))) rfl (l6In_c (ms.length : Int) 1 8 _) ?_
  rintro _ w7034 ⟨rfl, hg7035⟩
  have hb7036 := low0 hb6686 hg7035
  refine wpo_assign (v := .bool (inR (ms.length : Int) 1 8)) rfl rfl ?_
  refine wpo_nil ?_
  refine wpf_ret ?_
  refine ⟨.bool (inR (ms.length : Int) 1 8), res1 rfl rfl, ?_, hb7036⟩
  exact congrArg Value.bool (tab_yes hall (by omega))

end Go.Proofs.Ytlkmdoebmklbbaa
