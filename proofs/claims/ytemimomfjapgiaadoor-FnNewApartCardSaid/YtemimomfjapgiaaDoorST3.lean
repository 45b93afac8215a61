/- Walks, printed by a program of mine (gen.py) out of the functions. -/
import Derived.Test.YtemimomfjapgiaaDoorST2
namespace Go.Proofs.YtemimomfjapgiaaDoor
open Go.RowKit Go.Dw
set_option maxRecDepth 100000
set_option maxHeartbeats 4000000
set_option linter.unusedSimpArgs false
set_option linter.unusedVariables false
theorem gf_10 : goFn Tryd.prog 10 = true := by kernel_rfl
theorem gf_14 : goFn Tryd.prog 14 = true := by kernel_rfl
theorem gf_27 : goFn Tryd.prog 27 = true := by kernel_rfl
theorem gf_28 : goFn Tryd.prog 28 = true := by kernel_rfl
theorem gf_29 : goFn Tryd.prog 29 = true := by kernel_rfl
theorem zt_59 : zeroTy Tryd.prog 59 = some (.agg #[.pointer none, .slice none 0 0]) := by kernel_rfl
theorem lines_c (w : World) (ms : List MTh) (hT : tableOk (tabT ms) = true) (htp : Pow10 w) (a : Option Addr) (c : Nat) (ht : TabAt w a ms) (hlen : TabLen ms) (hn : ms.length ≤ 1048576) : CallsR Tryd.prog 14 #[.slice a ms.length c] w (fun v w' => v = .string ⟨(tabtx (tabT ms)).toArray⟩ ∧ w.grownBy w' none) := by
 refine calls_of_wpf (n := 20) Tryd.func14 rfl Tryd.ntmps14 rfl ?_
 have hb0 := World.grownBy.refl w none
 have hml := tab_len hT
 refine wpf_seq_region ?_
 refine wpo_assign (v := .string ⟨([] : List UInt8).toArray⟩) rfl rfl ?_
 refine wpo_nil ?_
 refine wpf_seq_region ?_
 refine wpo_alloc (cs := #[.pointer none, .slice none 0 0]) zt_59 rfl rfl ?_
 intro B101 w102 hN103
 have hlB101 := hN_ge hN103 hb0
 have hb104 := low0 hb0 hN103.grw
 refine wpo_nil ?_
 refine wpf_seq ?_
 refine wpf_seq_region ?_
 refine wpo_move (v := .slice a ms.length c) rfl rfl ?_
 refine wpo_len (by kernel_rfl) rfl rfl ?_
 refine wpo_move (v := .int .i64 0) rfl rfl ?_
 refine wpo_nil ?_
 refine wpf_block ?_
 have hB105 : Bld w.heap.size B101 [] w102 := bld_new hN103.blk hlB101
 refine wpf_loopN (fun mm f' w' => ∃ (k : Nat), mm = ms.length - k ∧ k ≤ ms.length ∧ Bld w.heap.size B101 (ttx (tabT ms) k) w' ∧ f' 8 = .int .i64 (k : Int) ∧ f' 2 = .string ⟨([] : List UInt8).toArray⟩ ∧ f' 3 = .pointer (some ⟨B101, 0, none⟩) ∧ f' 6 = .slice a ms.length c ∧ f' 7 = .int .i64 (ms.length : Int) ∧ w.grownBy w' none) (ms.length - 0) ⟨0, rfl, (Nat.zero_le _), hB105, rfl, rfl, rfl, rfl, rfl, hb104⟩ ?_
 rintro mm f106 w107 ⟨k, hm109, hk, hBd, e110, e111, e112, e113, e114, hb108⟩
 refine wpf_seq_region ?_
 refine wpo_lss (q := decide ((k : Int) < (ms.length : Int))) e110 e114 rfl rfl ?_
 refine wpo_nil ?_
 refine wpf_seq ?_
 refine wpf_cond rfl (fun h115 => ?_) (fun h115 => ?_)
 ·
  have h116 := of_decide_eq_true h115
  refine wpf_skip ?_
  refine thn_n ?_
  refine wpf_seq ?_
  refine wpf_block ?_
  refine wpf_seq_region ?_
  refine wpo_move (v := .int .i64 (k : Int)) e110 rfl ?_
  obtain ⟨b119, q120, o121, ha122, ho123, hr124⟩ := SlAt.at (TabAt.low ht hb108).1 (map_get (mAt_get (show k < ms.length by omega)))
  have hle125 := TabLen.at hlen (mAt_get (show k < ms.length by omega))
  refine wpo_indexE es_23 e113 e110 ha122 ho123 (by omega) (by omega) rfl ?_
  refine wpo_loadn (vs := [.int .i64 ((mAt ms k).t.kind), .int .i64 ((mAt ms k).t.lab.s), .int .i64 ((mAt ms k).t.lab.v), .int .i64 ((mAt ms k).t.ve), .int .i64 ((mAt ms k).t.num), .slice ((mAt ms k).sa) ((mAt ms k).t.slots.length) ((mAt ms k).sc), .slice ((mAt ms k).qa) ((mAt ms k).t.queue.length) ((mAt ms k).qc), .int .i64 ((mAt ms k).t.to)]) rt_31 rfl rfl (range_sub hr124 0 8 rfl) rfl ?_
  refine wpo_alloc (cs := #[.int .i64 0, .int .i64 0, .int .i64 0, .int .i64 0, .int .i64 0, .slice none 0 0, .slice none 0 0, .int .i64 0]) zt_31 rfl rfl ?_
  intro B126 w127 hN128
  have hlB126 := hN_ge hN128 hb108
  have hb129 := low0 hb108 hN128.grw
  refine wpo_assign (v := .int .i64 (k : Int)) rfl rfl ?_
  refine wpo_storen (vs := [.int .i64 ((mAt ms k).t.kind), .int .i64 ((mAt ms k).t.lab.s), .int .i64 ((mAt ms k).t.lab.v), .int .i64 ((mAt ms k).t.ve), .int .i64 ((mAt ms k).t.num), .slice ((mAt ms k).sa) ((mAt ms k).t.slots.length) ((mAt ms k).sc), .slice ((mAt ms k).qa) ((mAt ms k).t.queue.length) ((mAt ms k).qc), .int .i64 ((mAt ms k).t.to)]) (cs' := #[.int .i64 ((mAt ms k).t.kind), .int .i64 ((mAt ms k).t.lab.s), .int .i64 ((mAt ms k).t.lab.v), .int .i64 ((mAt ms k).t.ve), .int .i64 ((mAt ms k).t.num), .slice ((mAt ms k).sa) ((mAt ms k).t.slots.length) ((mAt ms k).sc), .slice ((mAt ms k).qa) ((mAt ms k).t.queue.length) ((mAt ms k).qc), .int .i64 ((mAt ms k).t.to)]) rt_31 rfl rfl rfl (by simp [Value.oneCell']) hN128.blk (Nat.le_of_ble_eq_true rfl) rfl ?_
  intro w130 hS131
  have hb132 := low1 hb129 hS131.grw (by omega)
  refine wpo_nil ?_
  refine wpf_region ?_
  refine wpo_move (v := .int .i64 (k : Int)) rfl rfl ?_
  refine wpo_add (c := (k : Int) + 1) rfl rfl (by omega) (by omega) (by omega) rfl ?_
  refine wpo_loadn (vs := [.int .i64 ((mAt ms k).t.kind), .int .i64 ((mAt ms k).t.lab.s), .int .i64 ((mAt ms k).t.lab.v), .int .i64 ((mAt ms k).t.ve), .int .i64 ((mAt ms k).t.num), .slice ((mAt ms k).sa) ((mAt ms k).t.slots.length) ((mAt ms k).sc), .slice ((mAt ms k).qa) ((mAt ms k).t.queue.length) ((mAt ms k).qc), .int .i64 ((mAt ms k).t.to)]) rt_31 rfl rfl (hS131.blk.rangeL 0 8 rfl) rfl ?_
  refine wpo_call (vs := [.int .i64 ((k : Int) + 1), .agg #[.int .i64 ((mAt ms k).t.kind), .int .i64 ((mAt ms k).t.lab.s), .int .i64 ((mAt ms k).t.lab.v), .int .i64 ((mAt ms k).t.ve), .int .i64 ((mAt ms k).t.num), .slice ((mAt ms k).sa) ((mAt ms k).t.slots.length) ((mAt ms k).sc), .slice ((mAt ms k).qa) ((mAt ms k).t.queue.length) ((mAt ms k).qc), .int .i64 ((mAt ms k).t.to)]]) gf_28 (args_cons rfl (args_cons rfl args_nil)) rfl (line_c ((k : Int) + 1) (by omega) (mAt ms k) _ (pow_low htp hb132) (tab_thing hT (i := k) (by omega)) (TabAt.th (TabAt.low ht hb132) (mAt_get (show k < ms.length by omega))).1 (TabAt.th (TabAt.low ht hb132) (mAt_get (show k < ms.length by omega))).2.1 (by first | omega | exact Nat.le_of_ble_eq_true rfl | (simp only [List.length_nil, List.length_cons, List.length_append, List.length_replicate]; omega)) (by first | omega | exact Nat.le_of_ble_eq_true rfl | (simp only [List.length_nil, List.length_cons, List.length_append, List.length_replicate]; omega))) ?_
  rintro _ w133 ⟨rfl, hg134⟩
  have hb135 := low0 hb132 hg134
  have hqe136 := hN128.eq
  have hsl137 := Nat.add_le_add (ttx_le hT hk) (ltx_len (tab_thing hT (i := k) (by omega)) ((k : Int) + 1))
  refine wpo_call (vs := [.pointer (some ⟨B101, 0, none⟩), .string ⟨(ltx ((k : Int) + 1) ((mAt ms k).t)).toArray⟩]) gf_27 (args_cons e112 (args_cons rfl args_nil)) rfl (wstr_c w.heap.size B101 (ttx (tabT ms) k) (ltx ((k : Int) + 1) ((mAt ms k).t)) _ (bld_low hBd (low0 (low1 (low0 (World.grownBy.refl w107 none) hN128.grw) hS131.grw (by omega)) hg134)) (by omega) hb135.size) ?_
  rintro _ w138 ⟨rfl, hB140, hbe139⟩
  have hb141 := low_bld hb135 hbe139
  refine wpo_nil ?_
  refine blk_n ?_
  refine thn_n ?_
  refine wpf_region ?_
  refine wpo_add (c := (k : Int) + 1) e110 rfl (by omega) (by omega) (by omega) rfl ?_
  refine wpo_move (v := .int .i64 ((k : Int) + 1)) rfl rfl ?_
  refine wpo_nil ?_
  refine thn_n ?_
  exact ⟨ms.length - (k + 1), by omega, (k + 1), rfl, (by omega), (by rw [← ttx_s2 (k := k) (show k < ms.length by omega)]; exact hB140), rfl, e111, e112, e113, e114, hb141⟩
 ·
  have h142 := of_decide_eq_false h115
  refine wpf_exit ?_
  refine thn_e ?_
  refine thn_e ?_
  refine blk_e ?_
  refine thn_n ?_
  refine wpf_seq_region ?_
  refine wpo_call (vs := [.pointer (some ⟨B101, 0, none⟩)]) gf_29 (args_cons e112 args_nil) rfl (bstr_c w.heap.size B101 (ttx (tabT ms) k) _ hBd hb108.size) ?_
  rintro _ w143 ⟨rfl, hbe144⟩
  have hb145 := low_bld hb108 hbe144
  refine wpo_assign (v := .string ⟨(ttx (tabT ms) k).toArray⟩) rfl rfl ?_
  refine wpo_nil ?_
  refine wpf_ret ?_
  refine ⟨.string ⟨(ttx (tabT ms) k).toArray⟩, res1 rfl rfl, ?_, hb145⟩
  exact congrArg (fun z : List UInt8 => Value.string ⟨z.toArray⟩) ((tabtx_y hT (by omega) (by omega)))

theorem itabtx_c (w : World) (ms : List MTh) (htp : Pow10 w) (a : Option Addr) (c : Nat) (ht : TabAt w a ms) (hlen : TabLen ms) (hn : ms.length ≤ 1048576) : CallsR Tryd.prog 6 #[.slice a ms.length c] w (fun v w' => v = .string ⟨(tabtx (tabT ms)).toArray⟩ ∧ w.grownBy w' none) := by
 refine calls_of_wpf (n := 8) Tryd.func6 rfl Tryd.ntmps6 rfl ?_
 have hb0 := World.grownBy.refl w none
 refine wpf_seq_region ?_
 refine wpo_assign (v := .string ⟨([] : List UInt8).toArray⟩) rfl rfl ?_
 refine wpo_nil ?_
 refine wpf_seq ?_
 refine wpf_seq_region ?_
 refine wpo_move (v := .slice a ms.length c) rfl rfl ?_
 refine wpo_call (vs := [.slice a ms.length c]) gf_10 (args_cons rfl args_nil) rfl (TableOk_c  _ ms _ _ (TabAt.low ht hb0) hlen (by omega)) ?_
 rintro _ w101 ⟨rfl, hg102⟩
 have hb103 := low0 hb0 hg102
 refine wpo_not (b' := !tableOk (tabT ms)) rfl rfl rfl ?_
 refine wpo_nil ?_
 refine wpf_cond rfl (fun h104 => ?_) (fun h104 => ?_)
 ·
  have h105 := nt_t h104
  refine wpf_seq_region ?_
  refine wpo_assign (v := .string ⟨([] : List UInt8).toArray⟩) rfl rfl ?_
  refine wpo_nil ?_
  refine wpf_ret ?_
  refine thn_r ?_
  refine ⟨.string ⟨([] : List UInt8).toArray⟩, res1 rfl rfl, ?_, hb103⟩
  exact congrArg (fun z : List UInt8 => Value.string ⟨z.toArray⟩) ((tabtx_n h105))
 ·
  have h106 := nt_f h104
  refine wpf_skip ?_
  refine thn_n ?_
  refine wpf_seq_region ?_
  refine wpo_move (v := .slice a ms.length c) rfl rfl ?_
  refine wpo_call (vs := [.slice a ms.length c]) gf_14 (args_cons rfl args_nil) rfl (lines_c _ ms h106 (pow_low htp hb103) _ _ (TabAt.low ht hb103) hlen (by omega)) ?_
  rintro _ w107 ⟨rfl, hg108⟩
  have hb109 := low0 hb103 hg108
  refine wpo_assign (v := .string ⟨(tabtx (tabT ms)).toArray⟩) rfl rfl ?_
  refine wpo_nil ?_
  refine wpf_ret ?_
  refine ⟨.string ⟨(tabtx (tabT ms)).toArray⟩, res1 rfl rfl, ?_, hb109⟩
  exact congrArg (fun z : List UInt8 => Value.string ⟨z.toArray⟩) (rfl)

end Go.Proofs.YtemimomfjapgiaaDoor
