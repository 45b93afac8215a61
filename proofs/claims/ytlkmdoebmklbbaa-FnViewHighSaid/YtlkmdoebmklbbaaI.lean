/- Walks, printed by a program of mine (gen.py) out of the functions. -/
import Derived.Test.YtlkmdoebmklbbaaU
import Derived.Test.YtlkmdoebmklbbaaF
namespace Go.Proofs.Ytlkmdoebmklbbaa
open Go.RowKit Go.Dw
set_option maxRecDepth 100000
set_option maxHeartbeats 4000000
set_option linter.unusedSimpArgs false
set_option linter.unusedVariables false
theorem gf_103 : goFn Try.prog 103 = true := by kernel_rfl
theorem gf_104 : goFn Try.prog 104 = true := by kernel_rfl
theorem ot_54 : oneTy Try.prog 54 = true := by kernel_rfl
theorem zt_4 : zeroTy Try.prog 4 = some (.bool false) := by kernel_rfl
theorem allRights_c (w : World) (ms : List MTh) (a : Option Addr) (c : Nat) : CallsR Try.prog 104 #[.slice a ms.length c] w (fun v w' => ∃ B : Nat, v = .func (.func 115) #[] #[.pointer (some ⟨B, 0, none⟩)] ∧ w.heap.size ≤ B ∧ Blk w' B 54 #[.slice a ms.length c] ∧ w.grownBy w' none) := by
 refine calls_of_wpf (n := 4) Try.func104 rfl Try.ntmps104 rfl ?_
 have hb0 := World.grownBy.refl w none
 refine wpf_seq_region ?_
 refine wpo_box (v := .slice a ms.length c) (cs := #[.slice a ms.length c]) rfl rfl rfl ?_
 intro B7037 w7038 hN7039
 have hlB7037 := hN_ge hN7039 hb0
 have hb7040 := low0 hb0 hN7039.grw
 refine wpo_assign (v := .nilFunc) rfl rfl ?_
 refine wpo_nil ?_
 refine wpf_seq_region ?_
 refine wpo_makeFunc (vs := [.pointer (some ⟨B7037, 0, none⟩)]) (args_cons rfl args_nil) rfl ?_
 refine wpo_assign (v := .func (.func 115) #[] #[.pointer (some ⟨B7037, 0, none⟩)]) rfl rfl ?_
 refine wpo_nil ?_
 refine wpf_ret ?_
 refine ⟨.func (.func 115) #[] #[.pointer (some ⟨B7037, 0, none⟩)], res1 rfl rfl, B7037, rfl, hlB7037, hN7039.blk, hb7040⟩

theorem rights_stops (m : Nat) (w : World) (B : Nat) (ms : List MTh) (a : Option Addr) (c : Nat) (ht : TabAt w a ms) (hlen : TabLen ms) (hn : ms.length ≤ 1048576) (hB : Blk w B 54 #[.slice a ms.length c]) :
    SeqStopsK Fence.wide m Try.prog 115 #[.pointer (some ⟨B, 0, none⟩)] (fun x : Rt => #[.agg x.cells.toArray]) (Below w.heap.size) (fun xs => xs = allR ms) (fun pre => pre <+: allR ms) (allR ms).length w := by
 intro l J Jx W hW hJ hJx hY h0
 have hb0 := gob hW
 show CallsIn Fence.wide m Try.prog 115 #[.func (.yield l) #[] #[], .pointer (some ⟨B, 0, none⟩)] W _
 refine (callsIn_of_wpg (n := 26) (m := m) (R := fun v w' => (∃ xs, xs = allR ms ∧ J xs w') ∨ (∃ pre, pre <+: allR ms ∧ Jx pre w')) Try.func115 rfl Try.ntmps115 rfl ?_).mono (fun e w' ⟨v, he, h⟩ => ⟨⟨v, he⟩, h⟩)
 refine wpg_seq_region wd_wide ?_
 refine wpo_load1 (v := .slice a ms.length c) ot_54 rfl ((hB.grown0 hb0).cell rfl) rfl ?_
 refine wpo_len (by kernel_rfl) rfl rfl ?_
 refine wpo_move (v := .int .i64 0) rfl rfl ?_
 refine wpo_nil ?_
 refine wpg_block ?_
 refine wpg_loopN (fun mm f' w' => ∃ (k : Nat), mm = ms.length - k ∧ k ≤ ms.length ∧ J (allR (ms.take k)) w' ∧ f' 9 = .int .i64 (k : Int) ∧ f' 0 = .func (.yield l) #[] #[] ∧ f' 7 = .slice a ms.length c ∧ f' 8 = .int .i64 (ms.length : Int) ∧ w.grownBy w' none) (ms.length - 0) ⟨0, rfl, (Nat.zero_le _), h0, rfl, rfl, rfl, rfl, hb0⟩ ?_
 rintro mm f7041 w7042 ⟨k, hm7044, hk, hJk, e7045, e7046, e7047, e7048, hb7043⟩
 refine wpg_seq_region wd_wide ?_
 refine wpo_lss (q := decide ((k : Int) < (ms.length : Int))) e7045 e7048 rfl rfl ?_
 refine wpo_nil ?_
 refine wpg_seq ?_
 refine wpg_cond rfl (fun h7049 => ?_) (fun h7049 => ?_)
 ·
  have h7050 := of_decide_eq_true h7049
  refine wpg_skip ?_
  refine thn_n ?_
  refine wpg_seq ?_
  refine wpg_block ?_
  refine wpg_seq_region wd_wide ?_
  obtain ⟨b7053, q7054, o7055, ha7056, ho7057, hr7058⟩ := SlAt.at (TabAt.low ht hb7043).1 (map_get (mAt_get (show k < ms.length by omega)))
  have hle7059 := TabLen.at hlen (mAt_get (show k < ms.length by omega))
  refine wpo_indexE es_54 e7047 e7045 ha7056 ho7057 (by omega) (by omega) rfl ?_
  refine wpo_loadn (vs := [.int .i64 ((mAt ms k).t.kind), .int .i64 ((mAt ms k).t.lab.s), .int .i64 ((mAt ms k).t.lab.v), .int .i64 ((mAt ms k).t.ve), .int .i64 ((mAt ms k).t.num), .slice ((mAt ms k).sa) ((mAt ms k).t.slots.length) ((mAt ms k).sc), .slice ((mAt ms k).qa) ((mAt ms k).t.queue.length) ((mAt ms k).qc), .int .i64 ((mAt ms k).t.to)]) rt_45 rfl rfl (range_sub hr7058 0 8 rfl) rfl ?_
  refine wpo_alloc (cs := #[.int .i64 0, .int .i64 0, .int .i64 0, .int .i64 0, .int .i64 0, .slice none 0 0, .slice none 0 0, .int .i64 0]) zt_45 rfl rfl ?_
  intro B7060 w7061 hN7062
  have hlB7060 := hN_ge hN7062 hb7043
  have hb7063 := low0 hb7043 hN7062.grw
  refine wpo_storen (vs := [.int .i64 ((mAt ms k).t.kind), .int .i64 ((mAt ms k).t.lab.s), .int .i64 ((mAt ms k).t.lab.v), .int .i64 ((mAt ms k).t.ve), .int .i64 ((mAt ms k).t.num), .slice ((mAt ms k).sa) ((mAt ms k).t.slots.length) ((mAt ms k).sc), .slice ((mAt ms k).qa) ((mAt ms k).t.queue.length) ((mAt ms k).qc), .int .i64 ((mAt ms k).t.to)]) (cs' := #[.int .i64 ((mAt ms k).t.kind), .int .i64 ((mAt ms k).t.lab.s), .int .i64 ((mAt ms k).t.lab.v), .int .i64 ((mAt ms k).t.ve), .int .i64 ((mAt ms k).t.num), .slice ((mAt ms k).sa) ((mAt ms k).t.slots.length) ((mAt ms k).sc), .slice ((mAt ms k).qa) ((mAt ms k).t.queue.length) ((mAt ms k).qc), .int .i64 ((mAt ms k).t.to)]) rt_45 rfl rfl rfl (by simp [Value.oneCell']) hN7062.blk (Nat.le_of_ble_eq_true rfl) rfl ?_
  intro w7064 hS7065
  have hb7066 := low1 hb7063 hS7065.grw (by omega)
  refine wpo_nil ?_
  refine wpg_seq_region wd_wide ?_
  refine wpo_fieldAddr (o' := 5) fo_45_4 rfl rfl rfl ?_
  refine wpo_load1 (v := .slice ((mAt ms k).sa) ((mAt ms k).t.slots.length) ((mAt ms k).sc)) ot_27 rfl (hS7065.blk.cell rfl) rfl ?_
  refine wpo_len (by kernel_rfl) rfl rfl ?_
  refine wpo_move (v := .int .i64 0) rfl rfl ?_
  refine wpo_nil ?_
  refine wpg_block ?_
  refine wpg_loopN (fun mm f' w' => ∃ (j : Nat), mm = (mAt ms k).t.slots.length - j ∧ j ≤ (mAt ms k).t.slots.length ∧ J (preR ms k j) w' ∧ f' 16 = .int .i64 (j : Int) ∧ f' 0 = .func (.yield l) #[] #[] ∧ f' 7 = .slice a ms.length c ∧ f' 8 = .int .i64 (ms.length : Int) ∧ f' 9 = .int .i64 (k : Int) ∧ f' 14 = .slice ((mAt ms k).sa) ((mAt ms k).t.slots.length) ((mAt ms k).sc) ∧ f' 15 = .int .i64 ((mAt ms k).t.slots.length : Int) ∧ w.grownBy w' none) ((mAt ms k).t.slots.length - 0) ⟨0, rfl, (Nat.zero_le _), (by rw [preR_zero]; exact (hJ _ _ _ none hJk (low1 hN7062.grw hS7065.grw (Nat.le_trans ((World.grownBy.refl _ none)).size (Nat.le_of_eq hN7062.eq.symm))) (fun r e => by cases e))), rfl, e7046, e7047, e7048, e7045, rfl, rfl, hb7066⟩ ?_
  rintro mm f7067 w7068 ⟨j, hm7070, hj, hJj, e7071, e7072, e7073, e7074, e7075, e7076, e7077, hb7069⟩
  refine wpg_seq_region wd_wide ?_
  refine wpo_lss (q := decide ((j : Int) < ((mAt ms k).t.slots.length : Int))) e7071 e7077 rfl rfl ?_
  refine wpo_nil ?_
  refine wpg_seq ?_
  refine wpg_cond rfl (fun h7078 => ?_) (fun h7078 => ?_)
  ·
   have h7079 := of_decide_eq_true h7078
   refine wpg_skip ?_
   refine thn_n ?_
   refine wpg_seq ?_
   refine wpg_block ?_
   refine wpg_seq_region wd_wide ?_
   obtain ⟨b7082, q7083, o7084, ha7085, ho7086, hr7087⟩ := SlAt.at (TabAt.th (TabAt.low ht hb7069) (mAt_get (show k < ms.length by omega))).1 (map_get (rAt_get (show j < (mAt ms k).t.slots.length by omega)))
   refine wpo_indexE es_27 e7076 e7071 ha7085 ho7086 (by omega) (by omega) rfl ?_
   refine wpo_loadn (vs := [.int .i64 ((rAt (mAt ms k).t.slots j).th), .int .i64 ((rAt (mAt ms k).t.slots j).ve), .bool ((rAt (mAt ms k).t.slots j).rd), .bool ((rAt (mAt ms k).t.slots j).wr), .bool ((rAt (mAt ms k).t.slots j).wk)]) rt_29 rfl rfl (range_sub hr7087 0 5 rfl) rfl ?_
   refine wpo_alloc (cs := #[.int .i64 0, .int .i64 0, .bool false, .bool false, .bool false]) zt_29 rfl rfl ?_
   intro B7088 w7089 hN7090
   have hlB7088 := hN_ge hN7090 hb7069
   have hb7091 := low0 hb7069 hN7090.grw
   refine wpo_storen (vs := [.int .i64 ((rAt (mAt ms k).t.slots j).th), .int .i64 ((rAt (mAt ms k).t.slots j).ve), .bool ((rAt (mAt ms k).t.slots j).rd), .bool ((rAt (mAt ms k).t.slots j).wr), .bool ((rAt (mAt ms k).t.slots j).wk)]) (cs' := #[.int .i64 ((rAt (mAt ms k).t.slots j).th), .int .i64 ((rAt (mAt ms k).t.slots j).ve), .bool ((rAt (mAt ms k).t.slots j).rd), .bool ((rAt (mAt ms k).t.slots j).wr), .bool ((rAt (mAt ms k).t.slots j).wk)]) rt_29 rfl rfl rfl (by simp [Value.oneCell']) hN7090.blk (Nat.le_of_ble_eq_true rfl) rfl ?_
   intro w7092 hS7093
   have hb7094 := low1 hb7091 hS7093.grw (by omega)
   refine wpo_nil ?_
   refine wpg_seq ?_
   refine wpg_region' ?_
   refine wpog_at 2 wd_wide (by kernel_rfl) ?_
   simp only [List.take_succ_cons, List.take_zero]
   refine wpo_move (v := .func (.yield l) #[] #[]) e7072 rfl ?_
   refine wpo_loadn (vs := [.int .i64 ((rAt (mAt ms k).t.slots j).th), .int .i64 ((rAt (mAt ms k).t.slots j).ve), .bool ((rAt (mAt ms k).t.slots j).rd), .bool ((rAt (mAt ms k).t.slots j).wr), .bool ((rAt (mAt ms k).t.slots j).wk)]) rt_29 rfl rfl (hS7093.blk.rangeL 0 5 rfl) rfl ?_
   refine wpo_nil ?_
   simp only [List.drop_succ_cons, List.drop_zero]
   refine wpog_yield wd_wide rfl rfl (vs := [.agg #[.int .i64 ((rAt (mAt ms k).t.slots j).th), .int .i64 ((rAt (mAt ms k).t.slots j).ve), .bool ((rAt (mAt ms k).t.slots j).rd), .bool ((rAt (mAt ms k).t.slots j).wr), .bool ((rAt (mAt ms k).t.slots j).wk)]]) (args_cons rfl args_nil) rfl (hY (preR ms k j) _ _ (hJ _ _ _ none hJj (low1 hN7090.grw hS7093.grw (Nat.le_trans ((World.grownBy.refl _ none)).size (Nat.le_of_eq hN7090.eq.symm))) (fun r e => by cases e)) (preR_lt (by omega) (by omega))) ?_
   rintro _ w7095 (⟨rfl, hJ7097, hg7096⟩ | ⟨rfl, hJx7098⟩)
   ·
    refine ⟨true, rfl, ?_⟩
    have hb7099 := grown_below hb7094 hg7096
    refine wpog_of wd_wide (by kernel_rfl) ?_
    refine wpo_not (b' := false) rfl rfl rfl ?_
    refine wpo_nil ?_
    refine thn_n ?_
    refine wpg_condf rfl rfl ?_
    refine wpg_skip ?_
    refine blk_n ?_
    refine thn_n ?_
    refine wpg_region wd_wide ?_
    refine wpo_add (c := (j : Int) + 1) e7071 rfl (by omega) (by omega) (by omega) rfl ?_
    refine wpo_move (v := .int .i64 ((j : Int) + 1)) rfl rfl ?_
    refine wpo_nil ?_
    refine thn_n ?_
    exact ⟨(mAt ms k).t.slots.length - (j + 1), by omega, (j + 1), rfl, (by omega), (by rw [← preR_snoc (by omega)]; exact hJ7097), rfl, e7072, e7073, e7074, e7075, e7076, e7077, hb7099⟩
   ·
    refine ⟨false, rfl, ?_⟩
    refine wpog_of wd_wide (by kernel_rfl) ?_
    refine wpo_not (b' := true) rfl rfl rfl ?_
    refine wpo_nil ?_
    refine thn_n ?_
    refine wpg_condt rfl rfl ?_
    refine wpg_ret ?_
    refine blk_r ?_
    refine thn_r ?_
    refine thn_r ?_
    refine blk_r ?_
    refine blk_r ?_
    refine thn_r ?_
    refine thn_r ?_
    refine blk_r ?_
    refine ⟨.tuple #[], res0 rfl, Or.inr ⟨_, preR_prefix (k := k) (j := j + 1) (by omega), ?_⟩⟩
    rw [← preR_snoc (k := k) (j := j) (by omega)]
    exact hJx7098
  ·
   have h7100 := of_decide_eq_false h7078
   refine wpg_exit ?_
   refine thn_e ?_
   refine thn_e ?_
   refine blk_e ?_
   refine blk_n ?_
   refine thn_n ?_
   refine wpg_region wd_wide ?_
   refine wpo_add (c := (k : Int) + 1) e7075 rfl (by omega) (by omega) (by omega) rfl ?_
   refine wpo_move (v := .int .i64 ((k : Int) + 1)) rfl rfl ?_
   refine wpo_nil ?_
   refine thn_n ?_
   exact ⟨ms.length - (k + 1), by omega, (k + 1), rfl, (by omega), (by rw [← preR_next (j := j) (by omega) (by omega)]; exact hJj), rfl, e7072, e7073, e7074, hb7069⟩
 ·
  have h7101 := of_decide_eq_false h7049
  refine wpg_exit ?_
  refine thn_e ?_
  refine thn_e ?_
  refine blk_e ?_
  refine ⟨.tuple #[], res0 rfl, Or.inl ⟨_, rfl, ?_⟩⟩
  have kk := hJk
  rw [allR_take (by omega)] at kk
  exact kk

theorem TableOk_c (w : World) (ms : List MTh) (a : Option Addr) (c : Nat) (ht : TabAt w a ms) (hlen : TabLen ms) (hn : ms.length ≤ 1048576) : CallsR Try.prog 83 #[.slice a ms.length c] w (fun v w' => v = .bool (tableOk (tabT ms)) ∧ w.grownBy w' none) := by
 refine callsA (n := 53) (m := 9) Try.func83 rfl Try.ntmps83 rfl ?_
 have hb0 := World.grownBy.refl w none
 refine wpa_seq_region ?_
 refine wpo_box (v := .slice a ms.length c) (cs := #[.slice a ms.length c]) rfl rfl rfl ?_
 intro B7102 w7103 hN7104
 have hlB7102 := hN_ge hN7104 hb0
 have hb7105 := low0 hb0 hN7104.grw
 refine wpo_alloc (cs := #[.bool false]) zt_4 rfl rfl ?_
 intro B7106 w7107 hN7108
 have hlB7106 := hN_ge hN7108 hb7105
 have lt_B7102_B7106 := hN_gtl hN7108 (hN7104.blk).lt
 have hb7109 := low0 hb7105 hN7108.grw
 refine wpo_nil ?_
 refine wpa_seq ?_
 refine wpf_seq_region ?_
 have k7110 := (hN7104.blk.grown0 hN7108.grw)
 refine wpo_load1 (v := .slice a ms.length c) ot_54 rfl (k7110.cell rfl) rfl ?_
 refine wpo_len (by kernel_rfl) rfl rfl ?_
 refine wpo_call (vs := [.int .i64 (ms.length : Int), .int .i64 1, .int .i64 8]) gf_69 (args_cons rfl (args_cons rfl (args_cons rfl args_nil))) rfl (inRange_c (ms.length : Int) 1 8 _) ?_
 rintro _ w7111 ⟨rfl, hg7112⟩
 have hb7113 := low0 hb7109 hg7112
 refine wpo_not (b' := !inR (ms.length : Int) 1 8) rfl rfl rfl ?_
 refine wpo_nil ?_
 refine wpf_cond rfl (fun h7114 => ?_) (fun h7114 => ?_)
 ·
  have h7115 := nt_t h7114
  refine wpf_seq_region ?_
  have k7116 := (hN7108.blk.grown0 hg7112)
  refine wpo_store1 (v := .bool false) (cs' := #[.bool false]) ot_4 rfl rfl rfl k7116 (Nat.le_of_ble_eq_true rfl) rfl ?_
  intro w7117 hS7118
  have hb7119 := low1 hb7113 hS7118.grw (by omega)
  refine wpo_nil ?_
  refine wpf_ret ?_
  refine thn_r ?_
  exact endA (resC rfl (resCell_mk1 ot_4 rfl (hS7118.blk.cell rfl))) ⟨congrArg Value.bool (tabi_len h7115).symm, hb7119⟩
 ·
  have h7120 := nt_f h7114
  have hr7121 := inR_iff.1 h7120
  refine wpf_skip ?_
  refine thn_n ?_
  refine wpa_seq ?_
  refine wpf_seq_region ?_
  have k7122 := (k7110.grown0 hg7112)
  refine wpo_load1 (v := .slice a ms.length c) ot_54 rfl (k7122.cell rfl) rfl ?_
  refine wpo_len (by kernel_rfl) rfl rfl ?_
  refine wpo_move (v := .int .i64 0) rfl rfl ?_
  refine wpo_nil ?_
  refine wpf_block ?_
  have k7123 := (hN7108.blk.grown0 hg7112)
  refine wpf_loopN (fun mm f' w' => ∃ (k : Nat), mm = ms.length - k ∧ k ≤ ms.length ∧ (((tabT ms).take k).all (headOk (tabT ms))) = true ∧ f' 12 = .int .i64 (k : Int) ∧ f' 0 = .slice a ms.length c ∧ f' 1 = .pointer (some ⟨B7102, 0, none⟩) ∧ f' 2 = .pointer (some ⟨B7106, 0, none⟩) ∧ f' 10 = .slice a ms.length c ∧ f' 11 = .int .i64 (ms.length : Int) ∧ w.grownBy w' none ∧ Blk w' B7102 54 #[.slice a ms.length c] ∧ Blk w' B7106 4 #[.bool false]) (ms.length - 0) ⟨0, rfl, (Nat.zero_le _), rfl, rfl, rfl, rfl, rfl, rfl, rfl, hb7113, k7122, k7123⟩ ?_
  rintro mm f7124 w7125 ⟨k, hm7127, hk, hall, e7128, e7129, e7130, e7131, e7132, e7133, hb7126, k7134, k7135⟩
  refine wpf_seq_region ?_
  refine wpo_lss (q := decide ((k : Int) < (ms.length : Int))) e7128 e7133 rfl rfl ?_
  refine wpo_nil ?_
  refine wpf_seq ?_
  refine wpf_cond rfl (fun h7136 => ?_) (fun h7136 => ?_)
  ·
   have h7137 := of_decide_eq_true h7136
   refine wpf_skip ?_
   refine thn_n ?_
   refine wpf_seq ?_
   refine wpf_block ?_
   refine wpf_seq_region ?_
   obtain ⟨b7140, q7141, o7142, ha7143, ho7144, hr7145⟩ := SlAt.at (TabAt.low ht hb7126).1 (map_get (mAt_get (show k < ms.length by omega)))
   have hle7146 := TabLen.at hlen (mAt_get (show k < ms.length by omega))
   refine wpo_indexE es_54 e7132 e7128 ha7143 ho7144 (by omega) (by omega) rfl ?_
   refine wpo_loadn (vs := [.int .i64 ((mAt ms k).t.kind), .int .i64 ((mAt ms k).t.lab.s), .int .i64 ((mAt ms k).t.lab.v), .int .i64 ((mAt ms k).t.ve), .int .i64 ((mAt ms k).t.num), .slice ((mAt ms k).sa) ((mAt ms k).t.slots.length) ((mAt ms k).sc), .slice ((mAt ms k).qa) ((mAt ms k).t.queue.length) ((mAt ms k).qc), .int .i64 ((mAt ms k).t.to)]) rt_45 rfl rfl (range_sub hr7145 0 8 rfl) rfl ?_
   refine wpo_alloc (cs := #[.int .i64 0, .int .i64 0, .int .i64 0, .int .i64 0, .int .i64 0, .slice none 0 0, .slice none 0 0, .int .i64 0]) zt_45 rfl rfl ?_
   intro B7147 w7148 hN7149
   have hlB7147 := hN_ge hN7149 hb7126
   have lt_B7102_B7147 := hN_gtl hN7149 (k7134).lt
   have lt_B7106_B7147 := hN_gtl hN7149 (k7135).lt
   have hb7150 := low0 hb7126 hN7149.grw
   refine wpo_storen (vs := [.int .i64 ((mAt ms k).t.kind), .int .i64 ((mAt ms k).t.lab.s), .int .i64 ((mAt ms k).t.lab.v), .int .i64 ((mAt ms k).t.ve), .int .i64 ((mAt ms k).t.num), .slice ((mAt ms k).sa) ((mAt ms k).t.slots.length) ((mAt ms k).sc), .slice ((mAt ms k).qa) ((mAt ms k).t.queue.length) ((mAt ms k).qc), .int .i64 ((mAt ms k).t.to)]) (cs' := #[.int .i64 ((mAt ms k).t.kind), .int .i64 ((mAt ms k).t.lab.s), .int .i64 ((mAt ms k).t.lab.v), .int .i64 ((mAt ms k).t.ve), .int .i64 ((mAt ms k).t.num), .slice ((mAt ms k).sa) ((mAt ms k).t.slots.length) ((mAt ms k).sc), .slice ((mAt ms k).qa) ((mAt ms k).t.queue.length) ((mAt ms k).qc), .int .i64 ((mAt ms k).t.to)]) rt_45 rfl rfl rfl (by simp [Value.oneCell']) hN7149.blk (Nat.le_of_ble_eq_true rfl) rfl ?_
   intro w7151 hS7152
   have hb7153 := low1 hb7150 hS7152.grw (by omega)
   refine wpo_nil ?_
   refine wpf_seq ?_
   refine wpf_seq_region ?_
   refine wpo_loadn (vs := [.int .i64 ((mAt ms k).t.kind), .int .i64 ((mAt ms k).t.lab.s), .int .i64 ((mAt ms k).t.lab.v), .int .i64 ((mAt ms k).t.ve), .int .i64 ((mAt ms k).t.num), .slice ((mAt ms k).sa) ((mAt ms k).t.slots.length) ((mAt ms k).sc), .slice ((mAt ms k).qa) ((mAt ms k).t.queue.length) ((mAt ms k).qc), .int .i64 ((mAt ms k).t.to)]) rt_45 rfl rfl (hS7152.blk.rangeL 0 8 rfl) rfl ?_
   refine wpo_call (vs := [.agg #[.int .i64 ((mAt ms k).t.kind), .int .i64 ((mAt ms k).t.lab.s), .int .i64 ((mAt ms k).t.lab.v), .int .i64 ((mAt ms k).t.ve), .int .i64 ((mAt ms k).t.num), .slice ((mAt ms k).sa) ((mAt ms k).t.slots.length) ((mAt ms k).sc), .slice ((mAt ms k).qa) ((mAt ms k).t.queue.length) ((mAt ms k).qc), .int .i64 ((mAt ms k).t.to)]]) gf_26 (args_cons rfl args_nil) rfl (ThingOk_c (mAt ms k) _ (TabAt.th (TabAt.low ht hb7153) (mAt_get (show k < ms.length by omega))).1 (TabAt.th (TabAt.low ht hb7153) (mAt_get (show k < ms.length by omega))).2.1 (by first | omega | exact Nat.le_of_ble_eq_true rfl | (simp only [List.length_nil, List.length_cons, List.length_append, List.length_replicate]; omega)) (by first | omega | exact Nat.le_of_ble_eq_true rfl | (simp only [List.length_nil, List.length_cons, List.length_append, List.length_replicate]; omega))) ?_
   rintro _ w7154 ⟨rfl, hg7155⟩
   have hb7156 := low0 hb7153 hg7155
   refine wpo_not (b' := !thingOk (mAt ms k).t) rfl rfl rfl ?_
   refine wpo_nil ?_
   refine wpf_cond rfl (fun h7157 => ?_) (fun h7157 => ?_)
   ·
    have h7158 := nt_t h7157
    refine wpf_seq_region ?_
    have k7159 := (((k7135.grown0 hN7149.grw).grown hS7152.grw (some_ne (by omega))).grown0 hg7155)
    refine wpo_store1 (v := .bool false) (cs' := #[.bool false]) ot_4 e7131 rfl rfl k7159 (Nat.le_of_ble_eq_true rfl) rfl ?_
    intro w7160 hS7161
    have hb7162 := low1 hb7156 hS7161.grw (by omega)
    refine wpo_nil ?_
    refine wpf_ret ?_
    refine thn_r ?_
    refine blk_r ?_
    refine thn_r ?_
    refine thn_r ?_
    refine blk_r ?_
    refine thn_r ?_
    exact endA (resC rfl (resCell_mk1 ot_4 e7131 (hS7161.blk.cell rfl))) ⟨congrArg Value.bool (tabi_no (k := k) (by omega) (by unfold headOk; rw [h7158]; rfl)).symm, hb7162⟩
   ·
    have h7163 := nt_f h7157
    refine wpf_skip ?_
    refine thn_n ?_
    refine wpf_seq_region_mid (fun f' w' => (f' 0 = .slice a ms.length c ∧ f' 1 = .pointer (some ⟨B7102, 0, none⟩) ∧ f' 2 = .pointer (some ⟨B7106, 0, none⟩) ∧ f' 10 = .slice a ms.length c ∧ f' 11 = .int .i64 (ms.length : Int) ∧ f' 12 = .int .i64 (k : Int) ∧ f' 28 = .bool ((decide ((mAt ms k).t.kind = 5)) && (!kindAt (tabT ms) ((mAt ms k).t.to) 1))) ∧ w7154.grownBy w' none) ?_ ?_
    ·
     refine wpo_fieldAddr (o' := 0) fo_45_0 rfl rfl rfl ?_
     have k7170 := (hS7152.blk.grown0 hg7155)
     refine wpo_load1 (v := .int .i64 ((mAt ms k).t.kind)) ot_3 rfl (k7170.cell rfl) rfl ?_
     refine wpo_eql (q := decide ((mAt ms k).t.kind = 5)) rfl rfl rfl rfl ?_
     refine wpo_move (v := .bool (decide ((mAt ms k).t.kind = 5))) rfl rfl ?_
     rcases bcases (decide ((mAt ms k).t.kind = 5)) with h7171 | h7171
     ·
      have hgt7172 := th_gate h7163 h7171
      have h7173 := of_decide_eq_true h7171
      refine wpo_run rfl rfl rfl h7171 ?_
      have k7174 := (((k7134.grown0 hN7149.grw).grown hS7152.grw (some_ne (by omega))).grown0 hg7155)
      refine wpo_load1 (v := .slice a ms.length c) ot_54 e7130 (k7174.cell rfl) rfl ?_
      refine wpo_run rfl rfl rfl h7171 ?_
      refine wpo_fieldAddr (o' := 7) fo_45_6 rfl rfl rfl ?_
      refine wpo_run rfl rfl rfl h7171 ?_
      refine wpo_load1 (v := .int .i64 ((mAt ms k).t.to)) ot_3 rfl (k7170.cell rfl) rfl ?_
      refine wpo_run rfl rfl rfl h7171 ?_
      refine wpo_call (vs := [.slice a ms.length c, .int .i64 ((mAt ms k).t.to), .int .i64 1]) gf_103 (args_cons rfl (args_cons rfl (args_cons rfl args_nil))) rfl (kindAt_c ((mAt ms k).t.to) 1 (by omega) _ ms _ _ (TabAt.low ht hb7156) hlen (by omega)) ?_
      rintro _ w7175 ⟨rfl, hg7176⟩
      have hb7177 := low0 hb7156 hg7176
      refine wpo_run rfl rfl rfl h7171 ?_
      refine wpo_not (b' := !kindAt (tabT ms) ((mAt ms k).t.to) 1) rfl rfl rfl ?_
      refine wpo_pickt (v := .bool (!kindAt (tabT ms) ((mAt ms k).t.to) 1)) rfl h7171 rfl rfl ?_
      exact wpo_nil ⟨⟨e7129, e7130, e7131, e7132, e7133, e7128, (congrArg Value.bool (by first | (simp only [h7114, h7120, h7136, h7157, h7163, h7171, b0, b1, b2, b3, b4, b5, b6, b7, b8, b9]; done) | simp [h7114, h7120, h7136, h7157, h7163, h7171]))⟩, hg7176⟩
     ·
      have h7178 := of_decide_eq_false h7171
      iterate 5 refine wpo_pass rfl rfl rfl h7171 rfl ?_
      refine wpo_pickf (v := .bool false) rfl h7171 rfl rfl ?_
      exact wpo_nil ⟨⟨e7129, e7130, e7131, e7132, e7133, e7128, (congrArg Value.bool (by first | (simp only [h7114, h7120, h7136, h7157, h7163, h7171, b0, b1, b2, b3, b4, b5, b6, b7, b8, b9]; done) | simp [h7114, h7120, h7136, h7157, h7163, h7171]))⟩, (World.grownBy.refl _ _)⟩
    ·
     rintro f7179 w7180 ⟨⟨e7181, e7182, e7183, e7184, e7185, e7186, e7187⟩, hg7188⟩
     have hb7189 := low0 hb7156 hg7188
     refine wpf_cond e7187 (fun h7190 => ?_) (fun h7190 => ?_)
     ·
      have h7191 := and_l h7190
      have hgt7192 := th_gate h7163 h7191
      have h7193 := of_decide_eq_true h7191
      have h7194 := and_r h7190
      have h7195 := nt_t h7194
      refine wpf_seq_region ?_
      have k7196 := ((((k7135.grown0 hN7149.grw).grown hS7152.grw (some_ne (by omega))).grown0 hg7155).grown0 hg7188)
      refine wpo_store1 (v := .bool false) (cs' := #[.bool false]) ot_4 e7183 rfl rfl k7196 (Nat.le_of_ble_eq_true rfl) rfl ?_
      intro w7197 hS7198
      have hb7199 := low1 hb7189 hS7198.grw (by omega)
      refine wpo_nil ?_
      refine wpf_ret ?_
      refine blk_r ?_
      refine thn_r ?_
      refine thn_r ?_
      refine blk_r ?_
      refine thn_r ?_
      exact endA (resC rfl (resCell_mk1 ot_4 e7183 (hS7198.blk.cell rfl))) ⟨congrArg Value.bool (tabi_no (k := k) (by omega) (by unfold headOk; rw [nt_t (gate_i.symm.trans h7190), Bool.and_false])).symm, hb7199⟩
     ·
      refine wpf_skip ?_
      refine blk_n ?_
      refine thn_n ?_
      refine wpf_region ?_
      refine wpo_add (c := (k : Int) + 1) e7186 rfl (by omega) (by omega) (by omega) rfl ?_
      refine wpo_move (v := .int .i64 ((k : Int) + 1)) rfl rfl ?_
      refine wpo_nil ?_
      refine thn_n ?_
      have k7200 := ((((k7134.grown0 hN7149.grw).grown hS7152.grw (some_ne (by omega))).grown0 hg7155).grown0 hg7188)
      have k7201 := ((((k7135.grown0 hN7149.grw).grown hS7152.grw (some_ne (by omega))).grown0 hg7155).grown0 hg7188)
      exact ⟨ms.length - (k + 1), by omega, (k + 1), rfl, (by omega), (take_all_succ (p := headOk (tabT ms)) hall (tab_at (by omega)) (by unfold headOk; rw [h7163, nt_f (gate_i.symm.trans h7190)]; rfl)), rfl, e7181, e7182, e7183, e7184, e7185, hb7189, k7200, k7201⟩
  ·
   have h7202 := of_decide_eq_false h7136
   refine wpf_exit ?_
   refine thn_e ?_
   refine thn_e ?_
   refine blk_e ?_
   refine thn_n ?_
   refine wpa_seqT ?_
   refine wpa_seq_region ?_
   refine wpo_load1 (v := .slice a ms.length c) ot_54 e7130 (k7134.cell rfl) rfl ?_
   refine wpo_call (vs := [.slice a ms.length c]) gf_104 (args_cons rfl args_nil) rfl (allRights_c _ ms _ _) ?_
   rintro _ w7207 ⟨B7203, rfl, hge7204, k7205, hg7206⟩
   have hb7208 := low0 hb7126 hg7206
   have hlB7203 := Nat.le_trans hb7126.size hge7204
   have lt_B7102_B7203 := Nat.lt_of_lt_of_le (k7134).lt hge7204
   have lt_B7106_B7203 := Nat.lt_of_lt_of_le (k7135).lt hge7204
   refine wpo_nil ?_
   have k7209 := (k7134.grown0 hg7206)
   have k7210 := (k7135.grown0 hg7206)
   refine wpa_gen (fun f' => f' 1 = .pointer (some ⟨B7102, 0, none⟩) ∧ f' 2 = .pointer (some ⟨B7106, 0, none⟩) ∧ f' 31 = .func (.func 115) #[] #[.pointer (some ⟨B7203, 0, none⟩)]) ⟨e7130, e7131, rfl⟩ ?_
   rintro fT ⟨e1, e2, e3⟩ a0 ha
   obtain ⟨tm, df⟩ := a0
   obtain rfl : df = [] := ha.defers
   have hlb2 : B7106 < w7207.heap.size := (k7210).lt
   refine wpIn_block ?_
   refine wpIn_rangeFunc_ownH (F := Fence.wide) (n := 9) rfl (by omega) (gf := 115) (lb := #[.pointer (some ⟨B7203, 0, none⟩)]) (by rw [ha.eval]; exact e3) trivial (enters_of Try.func115 (by kernel_rfl) rfl) (rights_stops 8 w7207 B7203 ms a c (TabAt.low ht hb7208) hlen hn k7205) belowK_t (belowK_b (Nat.le_refl _)) (Below.refl _ _) (fun _ => rfl) (fun pre W => w.grownBy W none ∧ Blk W B7102 54 #[.slice a ms.length c] ∧ Blk W B7106 4 #[.bool false] ∧ pre.all (rightTo (tabT ms)) = true ∧ w7207.heap.size ≤ W.heap.size) (fun c pre W => c = .ret ∧ w.grownBy W none ∧ Blk W B7106 4 #[.bool false] ∧ pre.all (rightTo (tabT ms)) = false) (fun s A B row hs hg hr => ⟨own_grown hs.1 hg hb7208.size hr, own_blk hs.2.1 hg hr, own_blk hs.2.2.1 hg hr, hs.2.2.2.1, Nat.le_trans hs.2.2.2.2 hg.size⟩) (fun c s A B row hs hg hr => ⟨hs.1, own_grown hs.2.1 hg hb7208.size hr, own_blk hs.2.2.1 hg hr, hs.2.2.2⟩) ⟨hb7208, k7209, k7210, rfl, Nat.le_refl _⟩ (fun x a' W => ∃ (Bx : Nat) (f' : Fr), Blk W Bx 29 x.cells.toArray ∧ FEq 53 a' f' ∧ f' 5 = .pointer (some ⟨Bx, 0, none⟩) ∧ f' 1 = .pointer (some ⟨B7102, 0, none⟩) ∧ f' 2 = .pointer (some ⟨B7106, 0, none⟩)) (fun x a' _ A B row hs hg hr => by obtain ⟨Bx, f', h1, h2⟩ := hs; exact ⟨Bx, f', own_blk h1 hg hr, h2⟩) ?assign ?body ?done ?stop
   case assign =>
    intro l pre x W K hi hK
    refine wpIn_mono ((?_ : Wpg (Fence.wide.inRound l) (9 - 1 - 1) Try.prog 53 (fun e f' w' => e = .normal ∧ ∃ Bx : Nat, W.grownBy w' none ∧ Blk w' Bx 29 x.cells.toArray ∧ f' 5 = .pointer (some ⟨Bx, 0, none⟩) ∧ f' 1 = .pointer (some ⟨B7102, 0, none⟩) ∧ f' 2 = .pointer (some ⟨B7106, 0, none⟩)) _ (up fT 32 (.agg x.cells.toArray)) W) _ (by have hp := ha.put (d := 32) rfl (.agg x.cells.toArray); simpa [Act.put] using hp)) ?_
    ·
     have hlW := hi.2.2.2.2
     refine wpg_region (wd_round l) ?_
     refine wpo_alloc (cs := #[.int .i64 0, .int .i64 0, .bool false, .bool false, .bool false]) zt_29 rfl rfl ?_
     intro B7211 w7212 hN7213
     have hlB7211 := hN_ge hN7213 hi.1
     have hb7214 := low0 hi.1 hN7213.grw
     refine wpo_storen (vs := [.int .i64 x.th, .int .i64 x.ve, .bool x.rd, .bool x.wr, .bool x.wk]) (cs' := #[.int .i64 x.th, .int .i64 x.ve, .bool x.rd, .bool x.wr, .bool x.wk]) rt_29 rfl rfl rfl (by simp [Value.oneCell']) hN7213.blk (Nat.le_of_ble_eq_true rfl) rfl ?_
     intro w7215 hS7216
     have hb7217 := low1 hb7214 hS7216.grw (by omega)
     refine wpo_nil ?_
     exact ⟨rfl, B7211, (low1 hN7213.grw hS7216.grw (Nat.le_trans ((World.grownBy.refl _ none)).size (Nat.le_of_eq hN7213.eq.symm))), hS7216.blk, rfl, e1, e2⟩
    ·
     rintro e a' w' ⟨f', hf', rfl, Bx, hg, hb, h5, h1, h2⟩
     exact hK a' w' (KeepsFrom.of_grownBy hg (fun j e => by cases e)) (below_none hg hi.2.2.2.2) ⟨low0 hi.1 hg, hi.2.1.grown0 hg, hi.2.2.1.grown0 hg, hi.2.2.2.1, Nat.le_trans hi.2.2.2.2 hg.size⟩ ⟨Bx, f', hb, hf', h5, h1, h2⟩
   case body =>
    rintro l pre x a' W hl hr hi ⟨Bx, f', hbx, hf', h5, h1, h2⟩ hlt
    refine wpIn_mono ((?_ : Wpg (Fence.wide.inRound l) (9 - 1 - 1) Try.prog 53 (fun e f'' w' => (e = .normal ∧ W.grownBy w' none ∧ rightTo (tabT ms) x = true) ∨ (e = .ret ∧ W.grownBy w' (some B7106) ∧ w.grownBy w' none ∧ Blk w' B7106 4 #[.bool false] ∧ rightTo (tabT ms) x = false)) _ f' W) a' hf') ?_
    ·
     refine wpg_block ?_
     refine wpg_seq ?_
     refine wpg_seq_region (wd_round l) ?_
     refine wpo_fieldAddr (o' := 0) fo_29_0 h5 rfl rfl ?_
     refine wpo_load1 (v := .int .i64 x.th) ot_3 rfl (hbx.cell rfl) rfl ?_
     refine wpo_eql (q := decide (x.th = 0)) rfl rfl rfl rfl ?_
     refine wpo_nil ?_
     refine wpg_cond rfl (fun h7218 => ?_) (fun h7218 => ?_)
     ·
      have h7219 := of_decide_eq_true h7218
      refine wpg_exit ?_
      refine thn_e ?_
      refine blk_e ?_
      exact Or.inl ⟨rfl, (World.grownBy.refl _ _), rightTo_z h7218⟩
     ·
      have h7220 := of_decide_eq_false h7218
      refine wpg_skip ?_
      refine thn_n ?_
      refine wpg_seq_mid (fun f' w' => (f' 2 = .pointer (some ⟨B7106, 0, none⟩) ∧ f' 52 = .bool ((!inR x.th 1 (ms.length : Int)) || (decide ((mAt ms ((x.th - 1).toNat)).t.ve < x.ve)))) ∧ W.grownBy w' none) ?_ ?_
      ·
       rcases bcases (!inR x.th 1 (ms.length : Int)) with h7241 | h7241
       ·
        have h7242 := nt_t h7241
        refine wpg_draw (wd_round l) (m := 15) (vals := [(36, .slice a ms.length c), (37, .pointer (some ⟨Bx, 0, none⟩)), (38, .int .i64 x.th), (39, .bool (inR x.th 1 (ms.length : Int))), (40, .bool (!inR x.th 1 (ms.length : Int))), (41, .bool (!inR x.th 1 (ms.length : Int))), (42, undef), (43, undef), (44, undef), (45, undef), (46, undef), (47, undef), (48, undef), (49, undef), (50, undef)]) (fun w' => W.grownBy w' none) mixed_ (by kernel_rfl) (grown_drew _) ?_ ?_
        ·
         refine yll_cons rfl (fun w7252 hi7253 => ?_) ?_
         ·
          have hb7254 := low0 hi.1 hi7253
          have k7255 := (hi.2.1.grown0 hi7253)
          refine wpo_load1 (v := .slice a ms.length c) ot_54 h1 (k7255.cell rfl) rfl ?_
          exact wpo_nil ⟨rfl, hi7253⟩
         refine yll_cons rfl (fun w7256 hi7257 => ?_) ?_
         ·
          have hb7258 := low0 hi.1 hi7257
          refine wpo_fieldAddr (o' := 0) fo_29_0 h5 rfl rfl ?_
          exact wpo_nil ⟨rfl, hi7257⟩
         refine yll_cons rfl (fun w7259 hi7260 => ?_) ?_
         ·
          have hb7261 := low0 hi.1 hi7260
          have k7262 := (hbx.grown0 hi7260)
          refine wpo_load1 (v := .int .i64 x.th) ot_3 rfl (k7262.cell rfl) rfl ?_
          exact wpo_nil ⟨rfl, hi7260⟩
         refine yll_cons rfl (fun w7263 hi7264 => ?_) ?_
         ·
          have hb7265 := low0 hi.1 hi7264
          refine wpo_call (vs := [.slice a ms.length c, .int .i64 x.th]) gf_84 (args_cons rfl (args_cons rfl args_nil)) rfl (thingExists_c x.th _ _ _ _) ?_
          rintro _ w7266 ⟨rfl, hg7267⟩
          have hb7268 := low0 hb7265 hg7267
          exact wpo_nil ⟨rfl, (grown_trans hi7264 hg7267)⟩
         refine yll_cons rfl (fun w7269 hi7270 => ?_) ?_
         ·
          have hb7271 := low0 hi.1 hi7270
          refine wpo_not (b' := !inR x.th 1 (ms.length : Int)) rfl rfl rfl ?_
          exact wpo_nil ⟨rfl, hi7270⟩
         refine yll_cons rfl (fun w7272 hi7273 => ?_) ?_
         ·
          have hb7274 := low0 hi.1 hi7273
          refine wpo_move (v := .bool (!inR x.th 1 (ms.length : Int))) rfl rfl ?_
          exact wpo_nil ⟨rfl, hi7273⟩
         refine yll_cons rfl (fun w7275 hi7276 => ?_) ?_
         ·
          have hb7277 := low0 hi.1 hi7276
          refine wpo_pass rfl rfl rfl h7241 rfl ?_
          exact wpo_nil ⟨rfl, hi7276⟩
         refine yll_cons rfl (fun w7278 hi7279 => ?_) ?_
         ·
          have hb7280 := low0 hi.1 hi7279
          refine wpo_pass rfl rfl rfl h7241 rfl ?_
          exact wpo_nil ⟨rfl, hi7279⟩
         refine yll_cons rfl (fun w7281 hi7282 => ?_) ?_
         ·
          have hb7283 := low0 hi.1 hi7282
          refine wpo_pass rfl rfl rfl h7241 rfl ?_
          exact wpo_nil ⟨rfl, hi7282⟩
         refine yll_cons rfl (fun w7284 hi7285 => ?_) ?_
         ·
          have hb7286 := low0 hi.1 hi7285
          refine wpo_pass rfl rfl rfl h7241 rfl ?_
          exact wpo_nil ⟨rfl, hi7285⟩
         refine yll_cons rfl (fun w7287 hi7288 => ?_) ?_
         ·
          have hb7289 := low0 hi.1 hi7288
          refine wpo_pass rfl rfl rfl h7241 rfl ?_
          exact wpo_nil ⟨rfl, hi7288⟩
         refine yll_cons rfl (fun w7290 hi7291 => ?_) ?_
         ·
          have hb7292 := low0 hi.1 hi7291
          refine wpo_pass rfl rfl rfl h7241 rfl ?_
          exact wpo_nil ⟨rfl, hi7291⟩
         refine yll_cons rfl (fun w7293 hi7294 => ?_) ?_
         ·
          have hb7295 := low0 hi.1 hi7294
          refine wpo_pass rfl rfl rfl h7241 rfl ?_
          exact wpo_nil ⟨rfl, hi7294⟩
         refine yll_cons rfl (fun w7296 hi7297 => ?_) ?_
         ·
          have hb7298 := low0 hi.1 hi7297
          refine wpo_pass rfl rfl rfl h7241 rfl ?_
          exact wpo_nil ⟨rfl, hi7297⟩
         refine yll_cons rfl (fun w7299 hi7300 => ?_) ?_
         ·
          have hb7301 := low0 hi.1 hi7300
          refine wpo_pass rfl rfl rfl h7241 rfl ?_
          exact wpo_nil ⟨rfl, hi7300⟩
         exact yll_nil
        ·
         intro w7302 hi7303
         have hb7304 := low0 hi.1 hi7303
         refine wpo_pass rfl rfl rfl h7241 rfl ?_
         refine wpo_pickt (v := .bool true) rfl h7241 rfl rfl ?_
         exact wpo_nil (thn_n ⟨⟨h2, (congrArg Value.bool (by first | (simp only [h7218, h7241, h7242, b0, b1, b2, b3, b4, b5, b6, b7, b8, b9]; done) | simp [h7218, h7241, h7242]))⟩, hi7303⟩)
       ·
        have h7305 := nt_f h7241
        have hr7306 := inR_iff.1 h7305
        obtain ⟨b7328, q7329, o7330, ha7331, ho7332, hr7333⟩ := SlAt.at (TabAt.low ht hi.1).1 (map_get (mAt_get (show (x.th - 1).toNat < ms.length by omega)))
        have hle7334 := TabLen.at hlen (mAt_get (show (x.th - 1).toNat < ms.length by omega))
        refine wpg_draw (wd_round l) (m := 15) (vals := [(36, .slice a ms.length c), (37, .pointer (some ⟨Bx, 0, none⟩)), (38, .int .i64 x.th), (39, .bool (inR x.th 1 (ms.length : Int))), (40, .bool (!inR x.th 1 (ms.length : Int))), (41, .bool (!inR x.th 1 (ms.length : Int))), (42, .pointer (some ⟨Bx, 1, none⟩)), (43, .int .i64 x.ve), (44, .slice a ms.length c), (45, .pointer (some ⟨Bx, 0, none⟩)), (46, .int .i64 x.th), (47, .int .i64 (x.th - 1)), (48, .pointer (some ⟨b7328, o7330, none⟩)), (49, .pointer (some ⟨b7328, o7330 + 3, none⟩)), (50, .int .i64 ((mAt ms ((x.th - 1).toNat)).t.ve))]) (fun w' => W.grownBy w' none) mixed_ (by kernel_rfl) (grown_drew _) ?_ ?_
        ·
         refine yll_cons rfl (fun w7340 hi7341 => ?_) ?_
         ·
          have hb7342 := low0 hi.1 hi7341
          have k7343 := (hi.2.1.grown0 hi7341)
          refine wpo_load1 (v := .slice a ms.length c) ot_54 h1 (k7343.cell rfl) rfl ?_
          exact wpo_nil ⟨rfl, hi7341⟩
         refine yll_cons rfl (fun w7344 hi7345 => ?_) ?_
         ·
          have hb7346 := low0 hi.1 hi7345
          refine wpo_fieldAddr (o' := 0) fo_29_0 h5 rfl rfl ?_
          exact wpo_nil ⟨rfl, hi7345⟩
         refine yll_cons rfl (fun w7347 hi7348 => ?_) ?_
         ·
          have hb7349 := low0 hi.1 hi7348
          have k7350 := (hbx.grown0 hi7348)
          refine wpo_load1 (v := .int .i64 x.th) ot_3 rfl (k7350.cell rfl) rfl ?_
          exact wpo_nil ⟨rfl, hi7348⟩
         refine yll_cons rfl (fun w7351 hi7352 => ?_) ?_
         ·
          have hb7353 := low0 hi.1 hi7352
          refine wpo_call (vs := [.slice a ms.length c, .int .i64 x.th]) gf_84 (args_cons rfl (args_cons rfl args_nil)) rfl (thingExists_c x.th _ _ _ _) ?_
          rintro _ w7354 ⟨rfl, hg7355⟩
          have hb7356 := low0 hb7353 hg7355
          exact wpo_nil ⟨rfl, (grown_trans hi7352 hg7355)⟩
         refine yll_cons rfl (fun w7357 hi7358 => ?_) ?_
         ·
          have hb7359 := low0 hi.1 hi7358
          refine wpo_not (b' := !inR x.th 1 (ms.length : Int)) rfl rfl rfl ?_
          exact wpo_nil ⟨rfl, hi7358⟩
         refine yll_cons rfl (fun w7360 hi7361 => ?_) ?_
         ·
          have hb7362 := low0 hi.1 hi7361
          refine wpo_move (v := .bool (!inR x.th 1 (ms.length : Int))) rfl rfl ?_
          exact wpo_nil ⟨rfl, hi7361⟩
         refine yll_cons rfl (fun w7363 hi7364 => ?_) ?_
         ·
          have hb7365 := low0 hi.1 hi7364
          refine wpo_run rfl rfl rfl h7241 ?_
          refine wpo_fieldAddr (o' := 1) fo_29_1 h5 rfl rfl ?_
          exact wpo_nil ⟨rfl, hi7364⟩
         refine yll_cons rfl (fun w7366 hi7367 => ?_) ?_
         ·
          have hb7368 := low0 hi.1 hi7367
          refine wpo_run rfl rfl rfl h7241 ?_
          have k7369 := (hbx.grown0 hi7367)
          refine wpo_load1 (v := .int .i64 x.ve) ot_3 rfl (k7369.cell rfl) rfl ?_
          exact wpo_nil ⟨rfl, hi7367⟩
         refine yll_cons rfl (fun w7370 hi7371 => ?_) ?_
         ·
          have hb7372 := low0 hi.1 hi7371
          refine wpo_run rfl rfl rfl h7241 ?_
          have k7373 := (hi.2.1.grown0 hi7371)
          refine wpo_load1 (v := .slice a ms.length c) ot_54 h1 (k7373.cell rfl) rfl ?_
          exact wpo_nil ⟨rfl, hi7371⟩
         refine yll_cons rfl (fun w7374 hi7375 => ?_) ?_
         ·
          have hb7376 := low0 hi.1 hi7375
          refine wpo_run rfl rfl rfl h7241 ?_
          refine wpo_fieldAddr (o' := 0) fo_29_0 h5 rfl rfl ?_
          exact wpo_nil ⟨rfl, hi7375⟩
         refine yll_cons rfl (fun w7377 hi7378 => ?_) ?_
         ·
          have hb7379 := low0 hi.1 hi7378
          refine wpo_run rfl rfl rfl h7241 ?_
          have k7380 := (hbx.grown0 hi7378)
          refine wpo_load1 (v := .int .i64 x.th) ot_3 rfl (k7380.cell rfl) rfl ?_
          exact wpo_nil ⟨rfl, hi7378⟩
         refine yll_cons rfl (fun w7381 hi7382 => ?_) ?_
         ·
          have hb7383 := low0 hi.1 hi7382
          refine wpo_run rfl rfl rfl h7241 ?_
          refine wpo_sub (c := x.th - 1) rfl rfl (by omega) (by omega) (by omega) rfl ?_
          exact wpo_nil ⟨rfl, hi7382⟩
         refine yll_cons rfl (fun w7384 hi7385 => ?_) ?_
         ·
          have hb7386 := low0 hi.1 hi7385
          refine wpo_run rfl rfl rfl h7241 ?_
          refine wpo_indexE es_54 rfl rfl ha7331 ho7332 (by omega) (by omega) rfl ?_
          exact wpo_nil ⟨rfl, hi7385⟩
         refine yll_cons rfl (fun w7387 hi7388 => ?_) ?_
         ·
          have hb7389 := low0 hi.1 hi7388
          refine wpo_run rfl rfl rfl h7241 ?_
          refine wpo_fieldAddr (o' := o7330 + 3) fo_45_2 rfl rfl rfl ?_
          exact wpo_nil ⟨rfl, hi7388⟩
         refine yll_cons rfl (fun w7390 hi7391 => ?_) ?_
         ·
          have hb7392 := low0 hi.1 hi7391
          refine wpo_run rfl rfl rfl h7241 ?_
          refine wpo_load1 (v := .int .i64 ((mAt ms ((x.th - 1).toNat)).t.ve)) ot_3 rfl ((range_low hr7333 hi7391) 3 _ rfl) rfl ?_
          exact wpo_nil ⟨rfl, hi7391⟩
         exact yll_nil
        ·
         intro w7393 hi7394
         have hb7395 := low0 hi.1 hi7394
         refine wpo_run rfl rfl rfl h7241 ?_
         refine wpo_gtr (q := decide ((mAt ms ((x.th - 1).toNat)).t.ve < x.ve)) rfl rfl rfl rfl ?_
         refine wpo_pickf (v := .bool (decide ((mAt ms ((x.th - 1).toNat)).t.ve < x.ve))) rfl h7241 rfl rfl ?_
         exact wpo_nil (thn_n ⟨⟨h2, (congrArg Value.bool (by first | (simp only [h7218, h7241, h7305, b0, b1, b2, b3, b4, b5, b6, b7, b8, b9]; done) | simp [h7218, h7241, h7305]))⟩, hi7394⟩)
      ·
       rintro f7396 w7397 ⟨⟨e7398, e7399⟩, hg7400⟩
       have hb7401 := low0 hi.1 hg7400
       refine wpg_cond e7399 (fun h7402 => ?_) (fun h7402 => ?_)
       ·
        refine wpg_seq_region (wd_round l) ?_
        have k7403 := (hi.2.2.1.grown0 hg7400)
        refine wpo_store1 (v := .bool false) (cs' := #[.bool false]) ot_4 e7398 rfl rfl k7403 (Nat.le_of_ble_eq_true rfl) rfl ?_
        intro w7404 hS7405
        have hb7406 := low1 hb7401 hS7405.grw (by omega)
        refine wpo_nil ?_
        refine wpg_ret ?_
        refine blk_r ?_
        exact Or.inr ⟨rfl, (grown_trans (grown_weak hg7400) hS7405.grw), hb7406, hS7405.blk, nt_t ((rightTo_i h7218).symm.trans h7402)⟩
       ·
        have h7407 := or_l h7402
        have h7408 := nt_f h7407
        have hr7409 := inR_iff.1 h7408
        have h7410 := or_r h7402
        have h7411 := of_decide_eq_false h7410
        refine wpg_skip ?_
        refine blk_n ?_
        exact Or.inl ⟨rfl, hg7400, nt_f ((rightTo_i h7218).symm.trans h7402)⟩
    ·
     rintro e a2 w2 ⟨f2, hf2, (⟨rfl, hg, hx⟩ | ⟨rfl, hg, hg0, hb, hx⟩)⟩
     ·
      exact ⟨KeepsFrom.of_grownBy hg (fun j e => by cases e), below_none hg hi.2.2.2.2, low0 hi.1 hg, hi.2.1.grown0 hg, hi.2.2.1.grown0 hg, by rw [List.all_append, hi.2.2.2.1]; simp [hx], Nat.le_trans hi.2.2.2.2 hg.size⟩
     ·
      exact ⟨KeepsFrom.of_grownBy hg (fun j e => by cases e; exact hlb2), rfl, hg0, hb, by rw [List.all_append]; simp [hx]⟩
   case done =>
    intro D xs W hD hS hi hK
    subst hS
    have hDB : D ≠ B7106 := by omega
    have hDl : D < W.heap.size := (Array.getElem?_eq_some_iff.1 hK).1
    have hsb := setB_setRow hi.2.2.1 #[.bool true]
    refine wpIn_seq ?_
    refine region1_unit wd_wide (fun c h => by cases h) rfl (w' := W.setRow B7106 #[.bool true]) ?_ rfl ?_
    ·
     have he : Act.eval { tmps := tm, defers := [{ target := .collected D, args := #[] }] } = ev fT := ha.eval
     rw [he]
     have hst := run_store1 (w := W) (v := .bool true) (o := 0) ot_4 rfl hi.2.2.1 (by simp)
     simp [execOp, show ev fT (.tmp 2) = _ from e2, show ev fT (.const (.bool true)) = .bool true from rfl, hst]
    ·
     refine wpIn_ret ?_
     have hK' : (W.setRow B7106 #[.bool true]).heap[D]? = some (.deferred (some [])) := (hsb.grw.block D hDl (fun e => hDB (Option.some.inj e))).trans hK
     have hgp := grownBy_putObj' (W.setRow B7106 #[.bool true]) D (.deferred none)
     have hb2 := hsb.blk.grown hgp (some_ne (Ne.symm hDB))
     refine endD (v := .bool true) (a := { tmps := tm, defers := [] }) ha hK' (resC rfl (resCell_mk1 ot_4 e2 (hb2.cell rfl))) ⟨?_, ?_⟩
     ·
      rw [tabi_yes h7120 hall (by omega), hi.2.2.2.1]
     ·
      exact low1 (low1 hi.1 hsb.grw (by omega)) hgp (Nat.le_trans hb7208.size hD)
   case stop =>
    intro D c pre W hD hSp hx hK
    obtain ⟨rfl, hg, hb, hf⟩ := hx
    have hDB : D ≠ B7106 := by omega
    have hgp := grownBy_putObj' W D (.deferred none)
    have hb2 := hb.grown hgp (some_ne (Ne.symm hDB))
    refine wpIn_ret ?_
    refine endD (v := .bool false) (a := { tmps := tm, defers := [] }) ha hK (resC rfl (resCell_mk1 ot_4 e2 (hb2.cell rfl))) ⟨?_, ?_⟩
    ·
     rw [tabi_yes h7120 hall (by omega), all_prefix hSp hf]
    ·
     exact low1 hg hgp (Nat.le_trans hb7208.size hD)

end Go.Proofs.Ytlkmdoebmklbbaa
