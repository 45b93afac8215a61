/- Walks, printed by a program of mine (gen.py) out of the functions. -/
import Derived.Test.YtemimomfjapgiaaDoorU
import Derived.Test.YtemimomfjapgiaaDoorF
namespace Go.Proofs.YtemimomfjapgiaaDoor
open Go.RowKit Go.Dw
set_option maxRecDepth 100000
set_option maxHeartbeats 4000000
set_option linter.unusedSimpArgs false
set_option linter.unusedVariables false
theorem gf_20 : goFn Tryd.prog 20 = true := by kernel_rfl
theorem gf_21 : goFn Tryd.prog 21 = true := by kernel_rfl
theorem ot_23 : oneTy Tryd.prog 23 = true := by kernel_rfl
theorem zt_4 : zeroTy Tryd.prog 4 = some (.bool false) := by kernel_rfl
theorem allRights_c (w : World) (ms : List MTh) (a : Option Addr) (c : Nat) : CallsR Tryd.prog 21 #[.slice a ms.length c] w (fun v w' => ∃ B : Nat, v = .func (.func 41) #[] #[.pointer (some ⟨B, 0, none⟩)] ∧ w.heap.size ≤ B ∧ Blk w' B 23 #[.slice a ms.length c] ∧ w.grownBy w' none) := by
 refine calls_of_wpf (n := 4) Tryd.func21 rfl Tryd.ntmps21 rfl ?_
 have hb0 := World.grownBy.refl w none
 refine wpf_seq_region ?_
 refine wpo_box (v := .slice a ms.length c) (cs := #[.slice a ms.length c]) rfl rfl rfl ?_
 intro B101 w102 hN103
 have hlB101 := hN_ge hN103 hb0
 have hb104 := low0 hb0 hN103.grw
 refine wpo_assign (v := .nilFunc) rfl rfl ?_
 refine wpo_nil ?_
 refine wpf_seq_region ?_
 refine wpo_makeFunc (vs := [.pointer (some ⟨B101, 0, none⟩)]) (args_cons rfl args_nil) rfl ?_
 refine wpo_assign (v := .func (.func 41) #[] #[.pointer (some ⟨B101, 0, none⟩)]) rfl rfl ?_
 refine wpo_nil ?_
 refine wpf_ret ?_
 refine ⟨.func (.func 41) #[] #[.pointer (some ⟨B101, 0, none⟩)], res1 rfl rfl, B101, rfl, hlB101, hN103.blk, hb104⟩

theorem rights_stops (m : Nat) (w : World) (B : Nat) (ms : List MTh) (a : Option Addr) (c : Nat) (ht : TabAt w a ms) (hlen : TabLen ms) (hn : ms.length ≤ 1048576) (hB : Blk w B 23 #[.slice a ms.length c]) :
    SeqStopsK Fence.wide m Tryd.prog 41 #[.pointer (some ⟨B, 0, none⟩)] (fun x : Rt => #[.agg x.cells.toArray]) (Below w.heap.size) (fun xs => xs = allR ms) (fun pre => pre <+: allR ms) (allR ms).length w := by
 intro l J Jx W hW hJ hJx hY h0
 have hb0 := gob hW
 show CallsIn Fence.wide m Tryd.prog 41 #[.func (.yield l) #[] #[], .pointer (some ⟨B, 0, none⟩)] W _
 refine (callsIn_of_wpg (n := 26) (m := m) (R := fun v w' => (∃ xs, xs = allR ms ∧ J xs w') ∨ (∃ pre, pre <+: allR ms ∧ Jx pre w')) Tryd.func41 rfl Tryd.ntmps41 rfl ?_).mono (fun e w' ⟨v, he, h⟩ => ⟨⟨v, he⟩, h⟩)
 refine wpg_seq_region wd_wide ?_
 refine wpo_load1 (v := .slice a ms.length c) ot_23 rfl ((hB.grown0 hb0).cell rfl) rfl ?_
 refine wpo_len (by kernel_rfl) rfl rfl ?_
 refine wpo_move (v := .int .i64 0) rfl rfl ?_
 refine wpo_nil ?_
 refine wpg_block ?_
 refine wpg_loopN (fun mm f' w' => ∃ (k : Nat), mm = ms.length - k ∧ k ≤ ms.length ∧ J (allR (ms.take k)) w' ∧ f' 9 = .int .i64 (k : Int) ∧ f' 0 = .func (.yield l) #[] #[] ∧ f' 7 = .slice a ms.length c ∧ f' 8 = .int .i64 (ms.length : Int) ∧ w.grownBy w' none) (ms.length - 0) ⟨0, rfl, (Nat.zero_le _), h0, rfl, rfl, rfl, rfl, hb0⟩ ?_
 rintro mm f101 w102 ⟨k, hm104, hk, hJk, e105, e106, e107, e108, hb103⟩
 refine wpg_seq_region wd_wide ?_
 refine wpo_lss (q := decide ((k : Int) < (ms.length : Int))) e105 e108 rfl rfl ?_
 refine wpo_nil ?_
 refine wpg_seq ?_
 refine wpg_cond rfl (fun h109 => ?_) (fun h109 => ?_)
 ·
  have h110 := of_decide_eq_true h109
  refine wpg_skip ?_
  refine thn_n ?_
  refine wpg_seq ?_
  refine wpg_block ?_
  refine wpg_seq_region wd_wide ?_
  obtain ⟨b113, q114, o115, ha116, ho117, hr118⟩ := SlAt.at (TabAt.low ht hb103).1 (map_get (mAt_get (show k < ms.length by omega)))
  have hle119 := TabLen.at hlen (mAt_get (show k < ms.length by omega))
  refine wpo_indexE es_23 e107 e105 ha116 ho117 (by omega) (by omega) rfl ?_
  refine wpo_loadn (vs := [.int .i64 ((mAt ms k).t.kind), .int .i64 ((mAt ms k).t.lab.s), .int .i64 ((mAt ms k).t.lab.v), .int .i64 ((mAt ms k).t.ve), .int .i64 ((mAt ms k).t.num), .slice ((mAt ms k).sa) ((mAt ms k).t.slots.length) ((mAt ms k).sc), .slice ((mAt ms k).qa) ((mAt ms k).t.queue.length) ((mAt ms k).qc), .int .i64 ((mAt ms k).t.to)]) rt_31 rfl rfl (range_sub hr118 0 8 rfl) rfl ?_
  refine wpo_alloc (cs := #[.int .i64 0, .int .i64 0, .int .i64 0, .int .i64 0, .int .i64 0, .slice none 0 0, .slice none 0 0, .int .i64 0]) zt_31 rfl rfl ?_
  intro B120 w121 hN122
  have hlB120 := hN_ge hN122 hb103
  have hb123 := low0 hb103 hN122.grw
  refine wpo_storen (vs := [.int .i64 ((mAt ms k).t.kind), .int .i64 ((mAt ms k).t.lab.s), .int .i64 ((mAt ms k).t.lab.v), .int .i64 ((mAt ms k).t.ve), .int .i64 ((mAt ms k).t.num), .slice ((mAt ms k).sa) ((mAt ms k).t.slots.length) ((mAt ms k).sc), .slice ((mAt ms k).qa) ((mAt ms k).t.queue.length) ((mAt ms k).qc), .int .i64 ((mAt ms k).t.to)]) (cs' := #[.int .i64 ((mAt ms k).t.kind), .int .i64 ((mAt ms k).t.lab.s), .int .i64 ((mAt ms k).t.lab.v), .int .i64 ((mAt ms k).t.ve), .int .i64 ((mAt ms k).t.num), .slice ((mAt ms k).sa) ((mAt ms k).t.slots.length) ((mAt ms k).sc), .slice ((mAt ms k).qa) ((mAt ms k).t.queue.length) ((mAt ms k).qc), .int .i64 ((mAt ms k).t.to)]) rt_31 rfl rfl rfl (by simp [Value.oneCell']) hN122.blk (Nat.le_of_ble_eq_true rfl) rfl ?_
  intro w124 hS125
  have hb126 := low1 hb123 hS125.grw (by omega)
  refine wpo_nil ?_
  refine wpg_seq_region wd_wide ?_
  refine wpo_fieldAddr (o' := 5) fo_31_4 rfl rfl rfl ?_
  refine wpo_load1 (v := .slice ((mAt ms k).sa) ((mAt ms k).t.slots.length) ((mAt ms k).sc)) ot_28 rfl (hS125.blk.cell rfl) rfl ?_
  refine wpo_len (by kernel_rfl) rfl rfl ?_
  refine wpo_move (v := .int .i64 0) rfl rfl ?_
  refine wpo_nil ?_
  refine wpg_block ?_
  refine wpg_loopN (fun mm f' w' => ∃ (j : Nat), mm = (mAt ms k).t.slots.length - j ∧ j ≤ (mAt ms k).t.slots.length ∧ J (preR ms k j) w' ∧ f' 16 = .int .i64 (j : Int) ∧ f' 0 = .func (.yield l) #[] #[] ∧ f' 7 = .slice a ms.length c ∧ f' 8 = .int .i64 (ms.length : Int) ∧ f' 9 = .int .i64 (k : Int) ∧ f' 14 = .slice ((mAt ms k).sa) ((mAt ms k).t.slots.length) ((mAt ms k).sc) ∧ f' 15 = .int .i64 ((mAt ms k).t.slots.length : Int) ∧ w.grownBy w' none) ((mAt ms k).t.slots.length - 0) ⟨0, rfl, (Nat.zero_le _), (by rw [preR_zero]; exact (hJ _ _ _ none hJk (low1 hN122.grw hS125.grw (Nat.le_trans ((World.grownBy.refl _ none)).size (Nat.le_of_eq hN122.eq.symm))) (fun r e => by cases e))), rfl, e106, e107, e108, e105, rfl, rfl, hb126⟩ ?_
  rintro mm f127 w128 ⟨j, hm130, hj, hJj, e131, e132, e133, e134, e135, e136, e137, hb129⟩
  refine wpg_seq_region wd_wide ?_
  refine wpo_lss (q := decide ((j : Int) < ((mAt ms k).t.slots.length : Int))) e131 e137 rfl rfl ?_
  refine wpo_nil ?_
  refine wpg_seq ?_
  refine wpg_cond rfl (fun h138 => ?_) (fun h138 => ?_)
  ·
   have h139 := of_decide_eq_true h138
   refine wpg_skip ?_
   refine thn_n ?_
   refine wpg_seq ?_
   refine wpg_block ?_
   refine wpg_seq_region wd_wide ?_
   obtain ⟨b142, q143, o144, ha145, ho146, hr147⟩ := SlAt.at (TabAt.th (TabAt.low ht hb129) (mAt_get (show k < ms.length by omega))).1 (map_get (rAt_get (show j < (mAt ms k).t.slots.length by omega)))
   refine wpo_indexE es_28 e136 e131 ha145 ho146 (by omega) (by omega) rfl ?_
   refine wpo_loadn (vs := [.int .i64 ((rAt (mAt ms k).t.slots j).th), .int .i64 ((rAt (mAt ms k).t.slots j).ve), .bool ((rAt (mAt ms k).t.slots j).rd), .bool ((rAt (mAt ms k).t.slots j).wr), .bool ((rAt (mAt ms k).t.slots j).wk)]) rt_39 rfl rfl (range_sub hr147 0 5 rfl) rfl ?_
   refine wpo_alloc (cs := #[.int .i64 0, .int .i64 0, .bool false, .bool false, .bool false]) zt_39 rfl rfl ?_
   intro B148 w149 hN150
   have hlB148 := hN_ge hN150 hb129
   have hb151 := low0 hb129 hN150.grw
   refine wpo_storen (vs := [.int .i64 ((rAt (mAt ms k).t.slots j).th), .int .i64 ((rAt (mAt ms k).t.slots j).ve), .bool ((rAt (mAt ms k).t.slots j).rd), .bool ((rAt (mAt ms k).t.slots j).wr), .bool ((rAt (mAt ms k).t.slots j).wk)]) (cs' := #[.int .i64 ((rAt (mAt ms k).t.slots j).th), .int .i64 ((rAt (mAt ms k).t.slots j).ve), .bool ((rAt (mAt ms k).t.slots j).rd), .bool ((rAt (mAt ms k).t.slots j).wr), .bool ((rAt (mAt ms k).t.slots j).wk)]) rt_39 rfl rfl rfl (by simp [Value.oneCell']) hN150.blk (Nat.le_of_ble_eq_true rfl) rfl ?_
   intro w152 hS153
   have hb154 := low1 hb151 hS153.grw (by omega)
   refine wpo_nil ?_
   refine wpg_seq ?_
   refine wpg_region' ?_
   refine wpog_at 2 wd_wide (by kernel_rfl) ?_
   simp only [List.take_succ_cons, List.take_zero]
   refine wpo_move (v := .func (.yield l) #[] #[]) e132 rfl ?_
   refine wpo_loadn (vs := [.int .i64 ((rAt (mAt ms k).t.slots j).th), .int .i64 ((rAt (mAt ms k).t.slots j).ve), .bool ((rAt (mAt ms k).t.slots j).rd), .bool ((rAt (mAt ms k).t.slots j).wr), .bool ((rAt (mAt ms k).t.slots j).wk)]) rt_39 rfl rfl (hS153.blk.rangeL 0 5 rfl) rfl ?_
   refine wpo_nil ?_
   simp only [List.drop_succ_cons, List.drop_zero]
   refine wpog_yield wd_wide rfl rfl (vs := [.agg #[.int .i64 ((rAt (mAt ms k).t.slots j).th), .int .i64 ((rAt (mAt ms k).t.slots j).ve), .bool ((rAt (mAt ms k).t.slots j).rd), .bool ((rAt (mAt ms k).t.slots j).wr), .bool ((rAt (mAt ms k).t.slots j).wk)]]) (args_cons rfl args_nil) rfl (hY (preR ms k j) _ _ (hJ _ _ _ none hJj (low1 hN150.grw hS153.grw (Nat.le_trans ((World.grownBy.refl _ none)).size (Nat.le_of_eq hN150.eq.symm))) (fun r e => by cases e)) (preR_lt (by omega) (by omega))) ?_
   rintro _ w155 (⟨rfl, hJ157, hg156⟩ | ⟨rfl, hJx158⟩)
   ·
    refine ⟨true, rfl, ?_⟩
    have hb159 := grown_below hb154 hg156
    refine wpog_of wd_wide (by kernel_rfl) ?_
    refine wpo_not (b' := false) rfl rfl rfl ?_
    refine wpo_nil ?_
    refine thn_n ?_
    refine wpg_condf rfl rfl ?_
    refine wpg_skip ?_
    refine blk_n ?_
    refine thn_n ?_
    refine wpg_region wd_wide ?_
    refine wpo_add (c := (j : Int) + 1) e131 rfl (by omega) (by omega) (by omega) rfl ?_
    refine wpo_move (v := .int .i64 ((j : Int) + 1)) rfl rfl ?_
    refine wpo_nil ?_
    refine thn_n ?_
    exact ⟨(mAt ms k).t.slots.length - (j + 1), by omega, (j + 1), rfl, (by omega), (by rw [← preR_snoc (by omega)]; exact hJ157), rfl, e132, e133, e134, e135, e136, e137, hb159⟩
   ·
    refine ⟨false, rfl, ?_⟩
    refine wpog_of wd_wide (by kernel_rfl) ?_
    refine wpo_not (b' := true) rfl rfl rfl ?_
    refine wpo_nil ?_
    refine thn_n ?_
    refine wpg_condt rfl rfl ?_
    refine wpg_ret ?_
    refine blk_r ?_
    refine thn_r ?_
    refine thn_r ?_
    refine blk_r ?_
    refine blk_r ?_
    refine thn_r ?_
    refine thn_r ?_
    refine blk_r ?_
    refine ⟨.tuple #[], res0 rfl, Or.inr ⟨_, preR_prefix (k := k) (j := j + 1) (by omega), ?_⟩⟩
    rw [← preR_snoc (k := k) (j := j) (by omega)]
    exact hJx158
  ·
   have h160 := of_decide_eq_false h138
   refine wpg_exit ?_
   refine thn_e ?_
   refine thn_e ?_
   refine blk_e ?_
   refine blk_n ?_
   refine thn_n ?_
   refine wpg_region wd_wide ?_
   refine wpo_add (c := (k : Int) + 1) e135 rfl (by omega) (by omega) (by omega) rfl ?_
   refine wpo_move (v := .int .i64 ((k : Int) + 1)) rfl rfl ?_
   refine wpo_nil ?_
   refine thn_n ?_
   exact ⟨ms.length - (k + 1), by omega, (k + 1), rfl, (by omega), (by rw [← preR_next (j := j) (by omega) (by omega)]; exact hJj), rfl, e132, e133, e134, hb129⟩
 ·
  have h161 := of_decide_eq_false h109
  refine wpg_exit ?_
  refine thn_e ?_
  refine thn_e ?_
  refine blk_e ?_
  refine ⟨.tuple #[], res0 rfl, Or.inl ⟨_, rfl, ?_⟩⟩
  have kk := hJk
  rw [allR_take (by omega)] at kk
  exact kk

theorem TableOk_c (w : World) (ms : List MTh) (a : Option Addr) (c : Nat) (ht : TabAt w a ms) (hlen : TabLen ms) (hn : ms.length ≤ 1048576) : CallsR Tryd.prog 10 #[.slice a ms.length c] w (fun v w' => v = .bool (tableOk (tabT ms)) ∧ w.grownBy w' none) := by
 refine callsA (n := 53) (m := 9) Tryd.func10 rfl Tryd.ntmps10 rfl ?_
 have hb0 := World.grownBy.refl w none
 refine wpa_seq_region ?_
 refine wpo_box (v := .slice a ms.length c) (cs := #[.slice a ms.length c]) rfl rfl rfl ?_
 intro B101 w102 hN103
 have hlB101 := hN_ge hN103 hb0
 have hb104 := low0 hb0 hN103.grw
 refine wpo_alloc (cs := #[.bool false]) zt_4 rfl rfl ?_
 intro B105 w106 hN107
 have hlB105 := hN_ge hN107 hb104
 have lt_B101_B105 := hN_gtl hN107 (hN103.blk).lt
 have hb108 := low0 hb104 hN107.grw
 refine wpo_nil ?_
 refine wpa_seq ?_
 refine wpf_seq_region ?_
 have k109 := (hN103.blk.grown0 hN107.grw)
 refine wpo_load1 (v := .slice a ms.length c) ot_23 rfl (k109.cell rfl) rfl ?_
 refine wpo_len (by kernel_rfl) rfl rfl ?_
 refine wpo_call (vs := [.int .i64 (ms.length : Int), .int .i64 1, .int .i64 8]) gf_19 (args_cons rfl (args_cons rfl (args_cons rfl args_nil))) rfl (inRange_c (ms.length : Int) 1 8 _) ?_
 rintro _ w110 ⟨rfl, hg111⟩
 have hb112 := low0 hb108 hg111
 refine wpo_not (b' := !inR (ms.length : Int) 1 8) rfl rfl rfl ?_
 refine wpo_nil ?_
 refine wpf_cond rfl (fun h113 => ?_) (fun h113 => ?_)
 ·
  have h114 := nt_t h113
  refine wpf_seq_region ?_
  have k115 := (hN107.blk.grown0 hg111)
  refine wpo_store1 (v := .bool false) (cs' := #[.bool false]) ot_4 rfl rfl rfl k115 (Nat.le_of_ble_eq_true rfl) rfl ?_
  intro w116 hS117
  have hb118 := low1 hb112 hS117.grw (by omega)
  refine wpo_nil ?_
  refine wpf_ret ?_
  refine thn_r ?_
  exact endA (resC rfl (resCell_mk1 ot_4 rfl (hS117.blk.cell rfl))) ⟨congrArg Value.bool (tabi_len h114).symm, hb118⟩
 ·
  have h119 := nt_f h113
  have hr120 := inR_iff.1 h119
  refine wpf_skip ?_
  refine thn_n ?_
  refine wpa_seq ?_
  refine wpf_seq_region ?_
  have k121 := (k109.grown0 hg111)
  refine wpo_load1 (v := .slice a ms.length c) ot_23 rfl (k121.cell rfl) rfl ?_
  refine wpo_len (by kernel_rfl) rfl rfl ?_
  refine wpo_move (v := .int .i64 0) rfl rfl ?_
  refine wpo_nil ?_
  refine wpf_block ?_
  have k122 := (hN107.blk.grown0 hg111)
  refine wpf_loopN (fun mm f' w' => ∃ (k : Nat), mm = ms.length - k ∧ k ≤ ms.length ∧ (((tabT ms).take k).all (headOk (tabT ms))) = true ∧ f' 12 = .int .i64 (k : Int) ∧ f' 0 = .slice a ms.length c ∧ f' 1 = .pointer (some ⟨B101, 0, none⟩) ∧ f' 2 = .pointer (some ⟨B105, 0, none⟩) ∧ f' 10 = .slice a ms.length c ∧ f' 11 = .int .i64 (ms.length : Int) ∧ w.grownBy w' none ∧ Blk w' B101 23 #[.slice a ms.length c] ∧ Blk w' B105 4 #[.bool false]) (ms.length - 0) ⟨0, rfl, (Nat.zero_le _), rfl, rfl, rfl, rfl, rfl, rfl, rfl, hb112, k121, k122⟩ ?_
  rintro mm f123 w124 ⟨k, hm126, hk, hall, e127, e128, e129, e130, e131, e132, hb125, k133, k134⟩
  refine wpf_seq_region ?_
  refine wpo_lss (q := decide ((k : Int) < (ms.length : Int))) e127 e132 rfl rfl ?_
  refine wpo_nil ?_
  refine wpf_seq ?_
  refine wpf_cond rfl (fun h135 => ?_) (fun h135 => ?_)
  ·
   have h136 := of_decide_eq_true h135
   refine wpf_skip ?_
   refine thn_n ?_
   refine wpf_seq ?_
   refine wpf_block ?_
   refine wpf_seq_region ?_
   obtain ⟨b139, q140, o141, ha142, ho143, hr144⟩ := SlAt.at (TabAt.low ht hb125).1 (map_get (mAt_get (show k < ms.length by omega)))
   have hle145 := TabLen.at hlen (mAt_get (show k < ms.length by omega))
   refine wpo_indexE es_23 e131 e127 ha142 ho143 (by omega) (by omega) rfl ?_
   refine wpo_loadn (vs := [.int .i64 ((mAt ms k).t.kind), .int .i64 ((mAt ms k).t.lab.s), .int .i64 ((mAt ms k).t.lab.v), .int .i64 ((mAt ms k).t.ve), .int .i64 ((mAt ms k).t.num), .slice ((mAt ms k).sa) ((mAt ms k).t.slots.length) ((mAt ms k).sc), .slice ((mAt ms k).qa) ((mAt ms k).t.queue.length) ((mAt ms k).qc), .int .i64 ((mAt ms k).t.to)]) rt_31 rfl rfl (range_sub hr144 0 8 rfl) rfl ?_
   refine wpo_alloc (cs := #[.int .i64 0, .int .i64 0, .int .i64 0, .int .i64 0, .int .i64 0, .slice none 0 0, .slice none 0 0, .int .i64 0]) zt_31 rfl rfl ?_
   intro B146 w147 hN148
   have hlB146 := hN_ge hN148 hb125
   have lt_B101_B146 := hN_gtl hN148 (k133).lt
   have lt_B105_B146 := hN_gtl hN148 (k134).lt
   have hb149 := low0 hb125 hN148.grw
   refine wpo_storen (vs := [.int .i64 ((mAt ms k).t.kind), .int .i64 ((mAt ms k).t.lab.s), .int .i64 ((mAt ms k).t.lab.v), .int .i64 ((mAt ms k).t.ve), .int .i64 ((mAt ms k).t.num), .slice ((mAt ms k).sa) ((mAt ms k).t.slots.length) ((mAt ms k).sc), .slice ((mAt ms k).qa) ((mAt ms k).t.queue.length) ((mAt ms k).qc), .int .i64 ((mAt ms k).t.to)]) (cs' := #[.int .i64 ((mAt ms k).t.kind), .int .i64 ((mAt ms k).t.lab.s), .int .i64 ((mAt ms k).t.lab.v), .int .i64 ((mAt ms k).t.ve), .int .i64 ((mAt ms k).t.num), .slice ((mAt ms k).sa) ((mAt ms k).t.slots.length) ((mAt ms k).sc), .slice ((mAt ms k).qa) ((mAt ms k).t.queue.length) ((mAt ms k).qc), .int .i64 ((mAt ms k).t.to)]) rt_31 rfl rfl rfl (by simp [Value.oneCell']) hN148.blk (Nat.le_of_ble_eq_true rfl) rfl ?_
   intro w150 hS151
   have hb152 := low1 hb149 hS151.grw (by omega)
   refine wpo_nil ?_
   refine wpf_seq ?_
   refine wpf_seq_region ?_
   refine wpo_loadn (vs := [.int .i64 ((mAt ms k).t.kind), .int .i64 ((mAt ms k).t.lab.s), .int .i64 ((mAt ms k).t.lab.v), .int .i64 ((mAt ms k).t.ve), .int .i64 ((mAt ms k).t.num), .slice ((mAt ms k).sa) ((mAt ms k).t.slots.length) ((mAt ms k).sc), .slice ((mAt ms k).qa) ((mAt ms k).t.queue.length) ((mAt ms k).qc), .int .i64 ((mAt ms k).t.to)]) rt_31 rfl rfl (hS151.blk.rangeL 0 8 rfl) rfl ?_
   refine wpo_call (vs := [.agg #[.int .i64 ((mAt ms k).t.kind), .int .i64 ((mAt ms k).t.lab.s), .int .i64 ((mAt ms k).t.lab.v), .int .i64 ((mAt ms k).t.ve), .int .i64 ((mAt ms k).t.num), .slice ((mAt ms k).sa) ((mAt ms k).t.slots.length) ((mAt ms k).sc), .slice ((mAt ms k).qa) ((mAt ms k).t.queue.length) ((mAt ms k).qc), .int .i64 ((mAt ms k).t.to)]]) gf_18 (args_cons rfl args_nil) rfl (ThingOk_c (mAt ms k) _ (TabAt.th (TabAt.low ht hb152) (mAt_get (show k < ms.length by omega))).1 (TabAt.th (TabAt.low ht hb152) (mAt_get (show k < ms.length by omega))).2.1 (by first | omega | exact Nat.le_of_ble_eq_true rfl | (simp only [List.length_nil, List.length_cons, List.length_append, List.length_replicate]; omega)) (by first | omega | exact Nat.le_of_ble_eq_true rfl | (simp only [List.length_nil, List.length_cons, List.length_append, List.length_replicate]; omega))) ?_
   rintro _ w153 ⟨rfl, hg154⟩
   have hb155 := low0 hb152 hg154
   refine wpo_not (b' := !thingOk (mAt ms k).t) rfl rfl rfl ?_
   refine wpo_nil ?_
   refine wpf_cond rfl (fun h156 => ?_) (fun h156 => ?_)
   ·
    have h157 := nt_t h156
    refine wpf_seq_region ?_
    have k158 := (((k134.grown0 hN148.grw).gn hS151.grw).grown0 hg154)
    refine wpo_store1 (v := .bool false) (cs' := #[.bool false]) ot_4 e130 rfl rfl k158 (Nat.le_of_ble_eq_true rfl) rfl ?_
    intro w159 hS160
    have hb161 := low1 hb155 hS160.grw (by omega)
    refine wpo_nil ?_
    refine wpf_ret ?_
    refine thn_r ?_
    refine blk_r ?_
    refine thn_r ?_
    refine thn_r ?_
    refine blk_r ?_
    refine thn_r ?_
    exact endA (resC rfl (resCell_mk1 ot_4 e130 (hS160.blk.cell rfl))) ⟨congrArg Value.bool (tabi_no (k := k) (by omega) (by unfold headOk; rw [h157]; rfl)).symm, hb161⟩
   ·
    have h162 := nt_f h156
    refine wpf_skip ?_
    refine thn_n ?_
    refine wpf_seq_region_mid (fun f' w' => (f' 0 = .slice a ms.length c ∧ f' 1 = .pointer (some ⟨B101, 0, none⟩) ∧ f' 2 = .pointer (some ⟨B105, 0, none⟩) ∧ f' 10 = .slice a ms.length c ∧ f' 11 = .int .i64 (ms.length : Int) ∧ f' 12 = .int .i64 (k : Int) ∧ f' 28 = .bool ((decide ((mAt ms k).t.kind = 5)) && (!kindAt (tabT ms) ((mAt ms k).t.to) 1))) ∧ w153.grownBy w' none) ?_ ?_
    ·
     refine wpo_fieldAddr (o' := 0) fo_31_0 rfl rfl rfl ?_
     have k169 := (hS151.blk.grown0 hg154)
     refine wpo_load1 (v := .int .i64 ((mAt ms k).t.kind)) ot_3 rfl (k169.cell rfl) rfl ?_
     refine wpo_eql (q := decide ((mAt ms k).t.kind = 5)) rfl rfl rfl rfl ?_
     refine wpo_move (v := .bool (decide ((mAt ms k).t.kind = 5))) rfl rfl ?_
     rcases bcases (decide ((mAt ms k).t.kind = 5)) with h170 | h170
     ·
      have hgt171 := th_gate h162 h170
      have h172 := of_decide_eq_true h170
      refine wpo_run rfl rfl rfl h170 ?_
      have k173 := (((k133.grown0 hN148.grw).gn hS151.grw).grown0 hg154)
      refine wpo_load1 (v := .slice a ms.length c) ot_23 e129 (k173.cell rfl) rfl ?_
      refine wpo_run rfl rfl rfl h170 ?_
      refine wpo_fieldAddr (o' := 7) fo_31_6 rfl rfl rfl ?_
      refine wpo_run rfl rfl rfl h170 ?_
      refine wpo_load1 (v := .int .i64 ((mAt ms k).t.to)) ot_3 rfl (k169.cell rfl) rfl ?_
      refine wpo_run rfl rfl rfl h170 ?_
      refine wpo_call (vs := [.slice a ms.length c, .int .i64 ((mAt ms k).t.to), .int .i64 1]) gf_20 (args_cons rfl (args_cons rfl (args_cons rfl args_nil))) rfl (kindAt_c ((mAt ms k).t.to) 1 (by omega) _ ms _ _ (TabAt.low ht hb155) hlen (by omega)) ?_
      rintro _ w174 ⟨rfl, hg175⟩
      have hb176 := low0 hb155 hg175
      refine wpo_run rfl rfl rfl h170 ?_
      refine wpo_not (b' := !kindAt (tabT ms) ((mAt ms k).t.to) 1) rfl rfl rfl ?_
      refine wpo_pickt (v := .bool (!kindAt (tabT ms) ((mAt ms k).t.to) 1)) rfl h170 rfl rfl ?_
      exact wpo_nil ⟨⟨e128, e129, e130, e131, e132, e127, (congrArg Value.bool (by first | (simp only [h113, h119, h135, h156, h162, h170, b0, b1, b2, b3, b4, b5, b6, b7, b8, b9]; done) | simp [h113, h119, h135, h156, h162, h170]))⟩, hg175⟩
     ·
      have h177 := of_decide_eq_false h170
      iterate 5 refine wpo_pass rfl rfl rfl h170 rfl ?_
      refine wpo_pickf (v := .bool false) rfl h170 rfl rfl ?_
      exact wpo_nil ⟨⟨e128, e129, e130, e131, e132, e127, (congrArg Value.bool (by first | (simp only [h113, h119, h135, h156, h162, h170, b0, b1, b2, b3, b4, b5, b6, b7, b8, b9]; done) | simp [h113, h119, h135, h156, h162, h170]))⟩, (World.grownBy.refl _ _)⟩
    ·
     rintro f178 w179 ⟨⟨e180, e181, e182, e183, e184, e185, e186⟩, hg187⟩
     have hb188 := low0 hb155 hg187
     refine wpf_cond e186 (fun h189 => ?_) (fun h189 => ?_)
     ·
      have h190 := and_l h189
      have hgt191 := th_gate h162 h190
      have h192 := of_decide_eq_true h190
      have h193 := and_r h189
      have h194 := nt_t h193
      refine wpf_seq_region ?_
      have k195 := ((((k134.grown0 hN148.grw).gn hS151.grw).grown0 hg154).grown0 hg187)
      refine wpo_store1 (v := .bool false) (cs' := #[.bool false]) ot_4 e182 rfl rfl k195 (Nat.le_of_ble_eq_true rfl) rfl ?_
      intro w196 hS197
      have hb198 := low1 hb188 hS197.grw (by omega)
      refine wpo_nil ?_
      refine wpf_ret ?_
      refine blk_r ?_
      refine thn_r ?_
      refine thn_r ?_
      refine blk_r ?_
      refine thn_r ?_
      exact endA (resC rfl (resCell_mk1 ot_4 e182 (hS197.blk.cell rfl))) ⟨congrArg Value.bool (tabi_no (k := k) (by omega) (by unfold headOk; rw [nt_t (gate_i.symm.trans h189), Bool.and_false])).symm, hb198⟩
     ·
      refine wpf_skip ?_
      refine blk_n ?_
      refine thn_n ?_
      refine wpf_region ?_
      refine wpo_add (c := (k : Int) + 1) e185 rfl (by omega) (by omega) (by omega) rfl ?_
      refine wpo_move (v := .int .i64 ((k : Int) + 1)) rfl rfl ?_
      refine wpo_nil ?_
      refine thn_n ?_
      have k199 := ((((k133.grown0 hN148.grw).gn hS151.grw).grown0 hg154).grown0 hg187)
      have k200 := ((((k134.grown0 hN148.grw).gn hS151.grw).grown0 hg154).grown0 hg187)
      exact ⟨ms.length - (k + 1), by omega, (k + 1), rfl, (by omega), (take_all_succ (p := headOk (tabT ms)) hall (tab_at (by omega)) (by unfold headOk; rw [h162, nt_f (gate_i.symm.trans h189)]; rfl)), rfl, e180, e181, e182, e183, e184, hb188, k199, k200⟩
  ·
   have h201 := of_decide_eq_false h135
   refine wpf_exit ?_
   refine thn_e ?_
   refine thn_e ?_
   refine blk_e ?_
   refine thn_n ?_
   refine wpa_seqT ?_
   refine wpa_seq_region ?_
   refine wpo_load1 (v := .slice a ms.length c) ot_23 e129 (k133.cell rfl) rfl ?_
   refine wpo_call (vs := [.slice a ms.length c]) gf_21 (args_cons rfl args_nil) rfl (allRights_c _ ms _ _) ?_
   rintro _ w206 ⟨B202, rfl, hge203, k204, hg205⟩
   have hb207 := low0 hb125 hg205
   have hlB202 := Nat.le_trans hb125.size hge203
   have lt_B101_B202 := Nat.lt_of_lt_of_le (k133).lt hge203
   have lt_B105_B202 := Nat.lt_of_lt_of_le (k134).lt hge203
   refine wpo_nil ?_
   have k208 := (k133.grown0 hg205)
   have k209 := (k134.grown0 hg205)
   refine wpa_gen (fun f' => f' 1 = .pointer (some ⟨B101, 0, none⟩) ∧ f' 2 = .pointer (some ⟨B105, 0, none⟩) ∧ f' 31 = .func (.func 41) #[] #[.pointer (some ⟨B202, 0, none⟩)]) ⟨e129, e130, rfl⟩ ?_
   rintro fT ⟨e1, e2, e3⟩ a0 ha
   obtain ⟨tm, df⟩ := a0
   obtain rfl : df = [] := ha.defers
   have hlb2 : B105 < w206.heap.size := (k209).lt
   refine wpIn_block ?_
   refine wpIn_rangeFunc_ownH (F := Fence.wide) (n := 9) rfl (by omega) (gf := 41) (lb := #[.pointer (some ⟨B202, 0, none⟩)]) (by rw [ha.eval]; exact e3) trivial (enters_of Tryd.func41 (by kernel_rfl) rfl) (rights_stops 8 w206 B202 ms a c (TabAt.low ht hb207) hlen hn k204) belowK_t (belowK_b (Nat.le_refl _)) (Below.refl _ _) (fun _ => rfl) (fun pre W => w.grownBy W none ∧ Blk W B101 23 #[.slice a ms.length c] ∧ Blk W B105 4 #[.bool false] ∧ pre.all (rightTo (tabT ms)) = true ∧ w206.heap.size ≤ W.heap.size) (fun c pre W => c = .ret ∧ w.grownBy W none ∧ Blk W B105 4 #[.bool false] ∧ pre.all (rightTo (tabT ms)) = false) (fun s A B row hs hg hr => ⟨own_grown hs.1 hg hb207.size hr, own_blk hs.2.1 hg hr, own_blk hs.2.2.1 hg hr, hs.2.2.2.1, Nat.le_trans hs.2.2.2.2 hg.size⟩) (fun c s A B row hs hg hr => ⟨hs.1, own_grown hs.2.1 hg hb207.size hr, own_blk hs.2.2.1 hg hr, hs.2.2.2⟩) ⟨hb207, k208, k209, rfl, Nat.le_refl _⟩ (fun x a' W => ∃ (Bx : Nat) (f' : Fr), Blk W Bx 39 x.cells.toArray ∧ FEq 53 a' f' ∧ f' 5 = .pointer (some ⟨Bx, 0, none⟩) ∧ f' 1 = .pointer (some ⟨B101, 0, none⟩) ∧ f' 2 = .pointer (some ⟨B105, 0, none⟩)) (fun x a' _ A B row hs hg hr => by obtain ⟨Bx, f', h1, h2⟩ := hs; exact ⟨Bx, f', own_blk h1 hg hr, h2⟩) ?assign ?body ?done ?stop
   case assign =>
    intro l pre x W K hi hK
    refine wpIn_mono ((?_ : Wpg (Fence.wide.inRound l) (9 - 1 - 1) Tryd.prog 53 (fun e f' w' => e = .normal ∧ ∃ Bx : Nat, W.grownBy w' none ∧ Blk w' Bx 39 x.cells.toArray ∧ f' 5 = .pointer (some ⟨Bx, 0, none⟩) ∧ f' 1 = .pointer (some ⟨B101, 0, none⟩) ∧ f' 2 = .pointer (some ⟨B105, 0, none⟩)) _ (up fT 32 (.agg x.cells.toArray)) W) _ (by have hp := ha.put (d := 32) rfl (.agg x.cells.toArray); simpa [Act.put] using hp)) ?_
    ·
     have hlW := hi.2.2.2.2
     refine wpg_region (wd_round l) ?_
     refine wpo_alloc (cs := #[.int .i64 0, .int .i64 0, .bool false, .bool false, .bool false]) zt_39 rfl rfl ?_
     intro B210 w211 hN212
     have hlB210 := hN_ge hN212 hi.1
     have hb213 := low0 hi.1 hN212.grw
     refine wpo_storen (vs := [.int .i64 x.th, .int .i64 x.ve, .bool x.rd, .bool x.wr, .bool x.wk]) (cs' := #[.int .i64 x.th, .int .i64 x.ve, .bool x.rd, .bool x.wr, .bool x.wk]) rt_39 rfl rfl rfl (by simp [Value.oneCell']) hN212.blk (Nat.le_of_ble_eq_true rfl) rfl ?_
     intro w214 hS215
     have hb216 := low1 hb213 hS215.grw (by omega)
     refine wpo_nil ?_
     exact ⟨rfl, B210, (low1 hN212.grw hS215.grw (Nat.le_trans ((World.grownBy.refl _ none)).size (Nat.le_of_eq hN212.eq.symm))), hS215.blk, rfl, e1, e2⟩
    ·
     rintro e a' w' ⟨f', hf', rfl, Bx, hg, hb, h5, h1, h2⟩
     exact hK a' w' (KeepsFrom.of_grownBy hg (fun j e => by cases e)) (below_none hg hi.2.2.2.2) ⟨low0 hi.1 hg, hi.2.1.grown0 hg, hi.2.2.1.grown0 hg, hi.2.2.2.1, Nat.le_trans hi.2.2.2.2 hg.size⟩ ⟨Bx, f', hb, hf', h5, h1, h2⟩
   case body =>
    rintro l pre x a' W hl hr hi ⟨Bx, f', hbx, hf', h5, h1, h2⟩ hlt
    refine wpIn_mono ((?_ : Wpg (Fence.wide.inRound l) (9 - 1 - 1) Tryd.prog 53 (fun e f'' w' => (e = .normal ∧ W.grownBy w' none ∧ rightTo (tabT ms) x = true) ∨ (e = .ret ∧ W.grownBy w' (some B105) ∧ w.grownBy w' none ∧ Blk w' B105 4 #[.bool false] ∧ rightTo (tabT ms) x = false)) _ f' W) a' hf') ?_
    ·
     refine wpg_block ?_
     refine wpg_seq ?_
     refine wpg_seq_region (wd_round l) ?_
     refine wpo_fieldAddr (o' := 0) fo_39_0 h5 rfl rfl ?_
     refine wpo_load1 (v := .int .i64 x.th) ot_3 rfl (hbx.cell rfl) rfl ?_
     refine wpo_eql (q := decide (x.th = 0)) rfl rfl rfl rfl ?_
     refine wpo_nil ?_
     refine wpg_cond rfl (fun h217 => ?_) (fun h217 => ?_)
     ·
      have h218 := of_decide_eq_true h217
      refine wpg_exit ?_
      refine thn_e ?_
      refine blk_e ?_
      exact Or.inl ⟨rfl, (World.grownBy.refl _ _), rightTo_z h217⟩
     ·
      have h219 := of_decide_eq_false h217
      refine wpg_skip ?_
      refine thn_n ?_
      refine wpg_seq_mid (fun f' w' => (f' 2 = .pointer (some ⟨B105, 0, none⟩) ∧ f' 52 = .bool ((!inR x.th 1 (ms.length : Int)) || (decide ((mAt ms ((x.th - 1).toNat)).t.ve < x.ve)))) ∧ W.grownBy w' none) ?_ ?_
      ·
       rcases bcases (!inR x.th 1 (ms.length : Int)) with h240 | h240
       ·
        have h241 := nt_t h240
        refine wpg_draw (wd_round l) (m := 15) (vals := [(36, .slice a ms.length c), (37, .pointer (some ⟨Bx, 0, none⟩)), (38, .int .i64 x.th), (39, .bool (inR x.th 1 (ms.length : Int))), (40, .bool (!inR x.th 1 (ms.length : Int))), (41, .bool (!inR x.th 1 (ms.length : Int))), (42, undef), (43, undef), (44, undef), (45, undef), (46, undef), (47, undef), (48, undef), (49, undef), (50, undef)]) (fun w' => W.grownBy w' none) mixed_ (by kernel_rfl) (grown_drew _) ?_ ?_
        ·
         refine yll_cons rfl (fun w251 hi252 => ?_) ?_
         ·
          have hb253 := low0 hi.1 hi252
          have k254 := (hi.2.1.grown0 hi252)
          refine wpo_load1 (v := .slice a ms.length c) ot_23 h1 (k254.cell rfl) rfl ?_
          exact wpo_nil ⟨rfl, hi252⟩
         refine yll_cons rfl (fun w255 hi256 => ?_) ?_
         ·
          have hb257 := low0 hi.1 hi256
          refine wpo_fieldAddr (o' := 0) fo_39_0 h5 rfl rfl ?_
          exact wpo_nil ⟨rfl, hi256⟩
         refine yll_cons rfl (fun w258 hi259 => ?_) ?_
         ·
          have hb260 := low0 hi.1 hi259
          have k261 := (hbx.grown0 hi259)
          refine wpo_load1 (v := .int .i64 x.th) ot_3 rfl (k261.cell rfl) rfl ?_
          exact wpo_nil ⟨rfl, hi259⟩
         refine yll_cons rfl (fun w262 hi263 => ?_) ?_
         ·
          have hb264 := low0 hi.1 hi263
          refine wpo_call (vs := [.slice a ms.length c, .int .i64 x.th]) gf_22 (args_cons rfl (args_cons rfl args_nil)) rfl (thingExists_c x.th _ _ _ _) ?_
          rintro _ w265 ⟨rfl, hg266⟩
          have hb267 := low0 hb264 hg266
          exact wpo_nil ⟨rfl, (grown_trans hi263 hg266)⟩
         refine yll_cons rfl (fun w268 hi269 => ?_) ?_
         ·
          have hb270 := low0 hi.1 hi269
          refine wpo_not (b' := !inR x.th 1 (ms.length : Int)) rfl rfl rfl ?_
          exact wpo_nil ⟨rfl, hi269⟩
         refine yll_cons rfl (fun w271 hi272 => ?_) ?_
         ·
          have hb273 := low0 hi.1 hi272
          refine wpo_move (v := .bool (!inR x.th 1 (ms.length : Int))) rfl rfl ?_
          exact wpo_nil ⟨rfl, hi272⟩
         refine yll_cons rfl (fun w274 hi275 => ?_) ?_
         ·
          have hb276 := low0 hi.1 hi275
          refine wpo_pass rfl rfl rfl h240 rfl ?_
          exact wpo_nil ⟨rfl, hi275⟩
         refine yll_cons rfl (fun w277 hi278 => ?_) ?_
         ·
          have hb279 := low0 hi.1 hi278
          refine wpo_pass rfl rfl rfl h240 rfl ?_
          exact wpo_nil ⟨rfl, hi278⟩
         refine yll_cons rfl (fun w280 hi281 => ?_) ?_
         ·
          have hb282 := low0 hi.1 hi281
          refine wpo_pass rfl rfl rfl h240 rfl ?_
          exact wpo_nil ⟨rfl, hi281⟩
         refine yll_cons rfl (fun w283 hi284 => ?_) ?_
         ·
          have hb285 := low0 hi.1 hi284
          refine wpo_pass rfl rfl rfl h240 rfl ?_
          exact wpo_nil ⟨rfl, hi284⟩
         refine yll_cons rfl (fun w286 hi287 => ?_) ?_
         ·
          have hb288 := low0 hi.1 hi287
          refine wpo_pass rfl rfl rfl h240 rfl ?_
          exact wpo_nil ⟨rfl, hi287⟩
         refine yll_cons rfl (fun w289 hi290 => ?_) ?_
         ·
          have hb291 := low0 hi.1 hi290
          refine wpo_pass rfl rfl rfl h240 rfl ?_
          exact wpo_nil ⟨rfl, hi290⟩
         refine yll_cons rfl (fun w292 hi293 => ?_) ?_
         ·
          have hb294 := low0 hi.1 hi293
          refine wpo_pass rfl rfl rfl h240 rfl ?_
          exact wpo_nil ⟨rfl, hi293⟩
         refine yll_cons rfl (fun w295 hi296 => ?_) ?_
         ·
          have hb297 := low0 hi.1 hi296
          refine wpo_pass rfl rfl rfl h240 rfl ?_
          exact wpo_nil ⟨rfl, hi296⟩
         refine yll_cons rfl (fun w298 hi299 => ?_) ?_
         ·
          have hb300 := low0 hi.1 hi299
          refine wpo_pass rfl rfl rfl h240 rfl ?_
          exact wpo_nil ⟨rfl, hi299⟩
         exact yll_nil
        ·
         intro w301 hi302
         have hb303 := low0 hi.1 hi302
         refine wpo_pass rfl rfl rfl h240 rfl ?_
         refine wpo_pickt (v := .bool true) rfl h240 rfl rfl ?_
         exact wpo_nil (thn_n ⟨⟨h2, (congrArg Value.bool (by first | (simp only [h217, h240, h241, b0, b1, b2, b3, b4, b5, b6, b7, b8, b9]; done) | simp [h217, h240, h241]))⟩, hi302⟩)
       ·
        have h304 := nt_f h240
        have hr305 := inR_iff.1 h304
        obtain ⟨b327, q328, o329, ha330, ho331, hr332⟩ := SlAt.at (TabAt.low ht hi.1).1 (map_get (mAt_get (show (x.th - 1).toNat < ms.length by omega)))
        have hle333 := TabLen.at hlen (mAt_get (show (x.th - 1).toNat < ms.length by omega))
        refine wpg_draw (wd_round l) (m := 15) (vals := [(36, .slice a ms.length c), (37, .pointer (some ⟨Bx, 0, none⟩)), (38, .int .i64 x.th), (39, .bool (inR x.th 1 (ms.length : Int))), (40, .bool (!inR x.th 1 (ms.length : Int))), (41, .bool (!inR x.th 1 (ms.length : Int))), (42, .pointer (some ⟨Bx, 1, none⟩)), (43, .int .i64 x.ve), (44, .slice a ms.length c), (45, .pointer (some ⟨Bx, 0, none⟩)), (46, .int .i64 x.th), (47, .int .i64 (x.th - 1)), (48, .pointer (some ⟨b327, o329, none⟩)), (49, .pointer (some ⟨b327, o329 + 3, none⟩)), (50, .int .i64 ((mAt ms ((x.th - 1).toNat)).t.ve))]) (fun w' => W.grownBy w' none) mixed_ (by kernel_rfl) (grown_drew _) ?_ ?_
        ·
         refine yll_cons rfl (fun w339 hi340 => ?_) ?_
         ·
          have hb341 := low0 hi.1 hi340
          have k342 := (hi.2.1.grown0 hi340)
          refine wpo_load1 (v := .slice a ms.length c) ot_23 h1 (k342.cell rfl) rfl ?_
          exact wpo_nil ⟨rfl, hi340⟩
         refine yll_cons rfl (fun w343 hi344 => ?_) ?_
         ·
          have hb345 := low0 hi.1 hi344
          refine wpo_fieldAddr (o' := 0) fo_39_0 h5 rfl rfl ?_
          exact wpo_nil ⟨rfl, hi344⟩
         refine yll_cons rfl (fun w346 hi347 => ?_) ?_
         ·
          have hb348 := low0 hi.1 hi347
          have k349 := (hbx.grown0 hi347)
          refine wpo_load1 (v := .int .i64 x.th) ot_3 rfl (k349.cell rfl) rfl ?_
          exact wpo_nil ⟨rfl, hi347⟩
         refine yll_cons rfl (fun w350 hi351 => ?_) ?_
         ·
          have hb352 := low0 hi.1 hi351
          refine wpo_call (vs := [.slice a ms.length c, .int .i64 x.th]) gf_22 (args_cons rfl (args_cons rfl args_nil)) rfl (thingExists_c x.th _ _ _ _) ?_
          rintro _ w353 ⟨rfl, hg354⟩
          have hb355 := low0 hb352 hg354
          exact wpo_nil ⟨rfl, (grown_trans hi351 hg354)⟩
         refine yll_cons rfl (fun w356 hi357 => ?_) ?_
         ·
          have hb358 := low0 hi.1 hi357
          refine wpo_not (b' := !inR x.th 1 (ms.length : Int)) rfl rfl rfl ?_
          exact wpo_nil ⟨rfl, hi357⟩
         refine yll_cons rfl (fun w359 hi360 => ?_) ?_
         ·
          have hb361 := low0 hi.1 hi360
          refine wpo_move (v := .bool (!inR x.th 1 (ms.length : Int))) rfl rfl ?_
          exact wpo_nil ⟨rfl, hi360⟩
         refine yll_cons rfl (fun w362 hi363 => ?_) ?_
         ·
          have hb364 := low0 hi.1 hi363
          refine wpo_run rfl rfl rfl h240 ?_
          refine wpo_fieldAddr (o' := 1) fo_39_1 h5 rfl rfl ?_
          exact wpo_nil ⟨rfl, hi363⟩
         refine yll_cons rfl (fun w365 hi366 => ?_) ?_
         ·
          have hb367 := low0 hi.1 hi366
          refine wpo_run rfl rfl rfl h240 ?_
          have k368 := (hbx.grown0 hi366)
          refine wpo_load1 (v := .int .i64 x.ve) ot_3 rfl (k368.cell rfl) rfl ?_
          exact wpo_nil ⟨rfl, hi366⟩
         refine yll_cons rfl (fun w369 hi370 => ?_) ?_
         ·
          have hb371 := low0 hi.1 hi370
          refine wpo_run rfl rfl rfl h240 ?_
          have k372 := (hi.2.1.grown0 hi370)
          refine wpo_load1 (v := .slice a ms.length c) ot_23 h1 (k372.cell rfl) rfl ?_
          exact wpo_nil ⟨rfl, hi370⟩
         refine yll_cons rfl (fun w373 hi374 => ?_) ?_
         ·
          have hb375 := low0 hi.1 hi374
          refine wpo_run rfl rfl rfl h240 ?_
          refine wpo_fieldAddr (o' := 0) fo_39_0 h5 rfl rfl ?_
          exact wpo_nil ⟨rfl, hi374⟩
         refine yll_cons rfl (fun w376 hi377 => ?_) ?_
         ·
          have hb378 := low0 hi.1 hi377
          refine wpo_run rfl rfl rfl h240 ?_
          have k379 := (hbx.grown0 hi377)
          refine wpo_load1 (v := .int .i64 x.th) ot_3 rfl (k379.cell rfl) rfl ?_
          exact wpo_nil ⟨rfl, hi377⟩
         refine yll_cons rfl (fun w380 hi381 => ?_) ?_
         ·
          have hb382 := low0 hi.1 hi381
          refine wpo_run rfl rfl rfl h240 ?_
          refine wpo_sub (c := x.th - 1) rfl rfl (by omega) (by omega) (by omega) rfl ?_
          exact wpo_nil ⟨rfl, hi381⟩
         refine yll_cons rfl (fun w383 hi384 => ?_) ?_
         ·
          have hb385 := low0 hi.1 hi384
          refine wpo_run rfl rfl rfl h240 ?_
          refine wpo_indexE es_23 rfl rfl ha330 ho331 (by omega) (by omega) rfl ?_
          exact wpo_nil ⟨rfl, hi384⟩
         refine yll_cons rfl (fun w386 hi387 => ?_) ?_
         ·
          have hb388 := low0 hi.1 hi387
          refine wpo_run rfl rfl rfl h240 ?_
          refine wpo_fieldAddr (o' := o329 + 3) fo_31_2 rfl rfl rfl ?_
          exact wpo_nil ⟨rfl, hi387⟩
         refine yll_cons rfl (fun w389 hi390 => ?_) ?_
         ·
          have hb391 := low0 hi.1 hi390
          refine wpo_run rfl rfl rfl h240 ?_
          refine wpo_load1 (v := .int .i64 ((mAt ms ((x.th - 1).toNat)).t.ve)) ot_3 rfl ((range_low hr332 hi390) 3 _ rfl) rfl ?_
          exact wpo_nil ⟨rfl, hi390⟩
         exact yll_nil
        ·
         intro w392 hi393
         have hb394 := low0 hi.1 hi393
         refine wpo_run rfl rfl rfl h240 ?_
         refine wpo_gtr (q := decide ((mAt ms ((x.th - 1).toNat)).t.ve < x.ve)) rfl rfl rfl rfl ?_
         refine wpo_pickf (v := .bool (decide ((mAt ms ((x.th - 1).toNat)).t.ve < x.ve))) rfl h240 rfl rfl ?_
         exact wpo_nil (thn_n ⟨⟨h2, (congrArg Value.bool (by first | (simp only [h217, h240, h304, b0, b1, b2, b3, b4, b5, b6, b7, b8, b9]; done) | simp [h217, h240, h304]))⟩, hi393⟩)
      ·
       rintro f395 w396 ⟨⟨e397, e398⟩, hg399⟩
       have hb400 := low0 hi.1 hg399
       refine wpg_cond e398 (fun h401 => ?_) (fun h401 => ?_)
       ·
        refine wpg_seq_region (wd_round l) ?_
        have k402 := (hi.2.2.1.grown0 hg399)
        refine wpo_store1 (v := .bool false) (cs' := #[.bool false]) ot_4 e397 rfl rfl k402 (Nat.le_of_ble_eq_true rfl) rfl ?_
        intro w403 hS404
        have hb405 := low1 hb400 hS404.grw (by omega)
        refine wpo_nil ?_
        refine wpg_ret ?_
        refine blk_r ?_
        exact Or.inr ⟨rfl, (grown_trans (grown_weak hg399) hS404.grw), hb405, hS404.blk, nt_t ((rightTo_i h217).symm.trans h401)⟩
       ·
        have h406 := or_l h401
        have h407 := nt_f h406
        have hr408 := inR_iff.1 h407
        have h409 := or_r h401
        have h410 := of_decide_eq_false h409
        refine wpg_skip ?_
        refine blk_n ?_
        exact Or.inl ⟨rfl, hg399, nt_f ((rightTo_i h217).symm.trans h401)⟩
    ·
     rintro e a2 w2 ⟨f2, hf2, (⟨rfl, hg, hx⟩ | ⟨rfl, hg, hg0, hb, hx⟩)⟩
     ·
      exact ⟨KeepsFrom.of_grownBy hg (fun j e => by cases e), below_none hg hi.2.2.2.2, low0 hi.1 hg, hi.2.1.grown0 hg, hi.2.2.1.grown0 hg, by rw [List.all_append, hi.2.2.2.1]; simp [hx], Nat.le_trans hi.2.2.2.2 hg.size⟩
     ·
      exact ⟨KeepsFrom.of_grownBy hg (fun j e => by cases e; exact hlb2), rfl, hg0, hb, by rw [List.all_append]; simp [hx]⟩
   case done =>
    intro D xs W hD hS hi hK
    subst hS
    have hDB : D ≠ B105 := by omega
    have hDl : D < W.heap.size := (Array.getElem?_eq_some_iff.1 hK).1
    have hsb := setB_setRow hi.2.2.1 #[.bool true]
    refine wpIn_seq ?_
    refine region1_unit wd_wide (fun c h => by cases h) rfl (w' := W.setRow B105 #[.bool true]) ?_ rfl ?_
    ·
     have he : Act.eval { tmps := tm, defers := [{ target := .collected D, args := #[] }] } = ev fT := ha.eval
     rw [he]
     have hst := run_store1 (w := W) (v := .bool true) (o := 0) ot_4 rfl hi.2.2.1 (by simp)
     simp [execOp, show ev fT (.tmp 2) = _ from e2, show ev fT (.const (.bool true)) = .bool true from rfl, hst]
    ·
     refine wpIn_ret ?_
     have hK' : (W.setRow B105 #[.bool true]).heap[D]? = some (.deferred (some [])) := (hsb.grw.block D hDl (fun e => hDB (Option.some.inj e))).trans hK
     have hgp := grownBy_putObj' (W.setRow B105 #[.bool true]) D (.deferred none)
     have hb2 := hsb.blk.grown hgp (some_ne (Ne.symm hDB))
     refine endD (v := .bool true) (a := { tmps := tm, defers := [] }) ha hK' (resC rfl (resCell_mk1 ot_4 e2 (hb2.cell rfl))) ⟨?_, ?_⟩
     ·
      rw [tabi_yes h119 hall (by omega), hi.2.2.2.1]
     ·
      exact low1 (low1 hi.1 hsb.grw (by omega)) hgp (Nat.le_trans hb207.size hD)
   case stop =>
    intro D c pre W hD hSp hx hK
    obtain ⟨rfl, hg, hb, hf⟩ := hx
    have hDB : D ≠ B105 := by omega
    have hgp := grownBy_putObj' W D (.deferred none)
    have hb2 := hb.grown hgp (some_ne (Ne.symm hDB))
    refine wpIn_ret ?_
    refine endD (v := .bool false) (a := { tmps := tm, defers := [] }) ha hK (resC rfl (resCell_mk1 ot_4 e2 (hb2.cell rfl))) ⟨?_, ?_⟩
    ·
     rw [tabi_yes h119 hall (by omega), all_prefix hSp hf]
    ·
     exact low1 hg hgp (Nat.le_trans hb207.size hD)

end Go.Proofs.YtemimomfjapgiaaDoor
