/- Laws and walks: my templates, and what a program of mine (gen.py) printed out of the functions; only what the row reaches. -/
import Derived.Test.YtldnkinaedgnpaaVX3
section
namespace Go.Dw.J
open Go.RowKit Go.Dw Go.Proofs
set_option linter.unusedSectionVars false
set_option maxRecDepth 100000
set_option maxHeartbeats 4000000
set_option linter.unusedSimpArgs false
set_option linter.unusedVariables false
theorem viewThing_c [Comp] (l : Lab) (w : World) (q : MTh) (hq : ThAt w q) (hn : q.t.slots.length ≤ 1048576 ∧ q.t.queue.length ≤ 1048576) : CallsR Try.prog 42 #[.agg #[.int .i64 q.t.kind, .int .i64 q.t.lab.s, .int .i64 q.t.lab.v, .int .i64 q.t.ve, .int .i64 q.t.num, .slice q.sa q.t.slots.length q.sc, .slice q.qa q.t.queue.length q.qc, .int .i64 q.t.to], .agg #[.int .i64 l.s, .int .i64 l.v]] w (fun v w' => ∃ (sa : Option Addr) (sc : Nat) (qa : Option Addr) (qc : Nat), v = .agg #[.int .i64 ((viewTh q.t l).kind), .int .i64 ((viewTh q.t l).lab.s), .int .i64 ((viewTh q.t l).lab.v), .int .i64 ((viewTh q.t l).ve), .int .i64 ((viewTh q.t l).num), .slice sa ((viewTh q.t l).slots.length) sc, .slice qa ((viewTh q.t l).queue.length) qc, .int .i64 ((viewTh q.t l).to)] ∧ OwnN w.heap.size w' sa 74 5 sc (viewTh q.t l).slots.length ((viewTh q.t l).slots.flatMap Rt.cells) ∧ OwnN w.heap.size w' qa 3 1 qc (viewTh q.t l).queue.length ((viewTh q.t l).queue.flatMap icell) ∧ w.grownBy w' none) := by
 refine calls_of_wpf (n := 24) Try.func42 rfl Try.ntmps42 rfl ?_
 have hb0 := World.grownBy.refl w none
 refine wpf_seq_region ?_
 refine wpo_box (v := .agg #[.int .i64 q.t.kind, .int .i64 q.t.lab.s, .int .i64 q.t.lab.v, .int .i64 q.t.ve, .int .i64 q.t.num, .slice q.sa q.t.slots.length q.sc, .slice q.qa q.t.queue.length q.qc, .int .i64 q.t.to]) (cs := #[.int .i64 q.t.kind, .int .i64 q.t.lab.s, .int .i64 q.t.lab.v, .int .i64 q.t.ve, .int .i64 q.t.num, .slice q.sa q.t.slots.length q.sc, .slice q.qa q.t.queue.length q.qc, .int .i64 q.t.to]) rfl rfl rfl ?_
 intro B101 w102 hN103
 have hlB101 := hN_ge hN103 hb0
 have hb104 := low0 hb0 hN103.grw
 refine wpo_box (v := .agg #[.int .i64 l.s, .int .i64 l.v]) (cs := #[.int .i64 l.s, .int .i64 l.v]) rfl rfl rfl ?_
 intro B105 w106 hN107
 have hlB105 := hN_ge hN107 hb104
 have lt_B101_B105 := hN_gtl hN107 (hN103.blk).lt
 have hb108 := low0 hb104 hN107.grw
 refine wpo_alloc (cs := #[.int .i64 0, .int .i64 0, .int .i64 0, .int .i64 0, .int .i64 0, .slice none 0 0, .slice none 0 0, .int .i64 0]) zt_35 rfl rfl ?_
 intro B109 w110 hN111
 have hlB109 := hN_ge hN111 hb108
 have k112 := (hN103.blk.grown0 hN107.grw)
 have lt_B101_B109 := hN_gtl hN111 (k112).lt
 have lt_B105_B109 := hN_gtl hN111 (hN107.blk).lt
 have hb113 := low0 hb108 hN111.grw
 refine wpo_nil ?_
 refine wpf_seq ?_
 refine wpf_seq_region ?_
 refine wpo_fieldAddr (o' := 1) fo_35_1 rfl rfl rfl ?_
 have k114 := (k112.grown0 hN111.grw)
 refine wpo_loadn (vs := [.int .i64 q.t.lab.s, .int .i64 q.t.lab.v]) rt_25 rfl rfl (k114.rangeL 1 2 rfl) rfl ?_
 have k115 := (hN107.blk.grown0 hN111.grw)
 refine wpo_loadn (vs := [.int .i64 l.s, .int .i64 l.v]) rt_25 rfl rfl (k115.rangeL 0 2 rfl) rfl ?_
 refine wpo_call (vs := [.agg #[.int .i64 q.t.lab.s, .int .i64 q.t.lab.v], .agg #[.int .i64 l.s, .int .i64 l.v]]) gf_18 (args_cons rfl (args_cons rfl args_nil)) rfl (LabelFlow_c q.t.lab l _) ?_
 rintro _ w116 ⟨rfl, hg117⟩
 have hb118 := low0 hb113 hg117
 refine wpo_nil ?_
 refine wpf_cond rfl (fun h119 => ?_) (fun h119 => ?_)
 ·
  refine wpf_seq_region ?_
  have k120 := (k114.grown0 hg117)
  refine wpo_loadn (vs := [.int .i64 q.t.kind, .int .i64 q.t.lab.s, .int .i64 q.t.lab.v, .int .i64 q.t.ve, .int .i64 q.t.num, .slice q.sa q.t.slots.length q.sc, .slice q.qa q.t.queue.length q.qc, .int .i64 q.t.to]) rt_35 rfl rfl (k120.rangeL 0 8 rfl) rfl ?_
  refine wpo_call (vs := [.agg #[.int .i64 q.t.kind, .int .i64 q.t.lab.s, .int .i64 q.t.lab.v, .int .i64 q.t.ve, .int .i64 q.t.num, .slice q.sa q.t.slots.length q.sc, .slice q.qa q.t.queue.length q.qc, .int .i64 q.t.to]]) gf_86 (args_cons rfl args_nil) rfl (copyThing_c _ q (ThAt.low hq hb118) (by omega)) ?_
  rintro _ w128 ⟨a121, cap122, a123, cap124, rfl, hO125, hO126, hg127⟩
  have hb129 := low0 hb118 hg127
  have hO130 := OwnN.mono hO125 hb118.size
  have hO131 := OwnN.mono hO126 hb118.size
  have k132 := ((hN111.blk.grown0 hg117).grown0 hg127)
  refine wpo_storen (vs := [.int .i64 q.t.kind, .int .i64 q.t.lab.s, .int .i64 q.t.lab.v, .int .i64 q.t.ve, .int .i64 q.t.num, .slice a121 q.t.slots.length cap122, .slice a123 q.t.queue.length cap124, .int .i64 q.t.to]) (cs' := #[.int .i64 q.t.kind, .int .i64 q.t.lab.s, .int .i64 q.t.lab.v, .int .i64 q.t.ve, .int .i64 q.t.num, .slice a121 q.t.slots.length cap122, .slice a123 q.t.queue.length cap124, .int .i64 q.t.to]) rt_35 rfl rfl rfl (by simp [Value.oneCell']) k132 (Nat.le_of_ble_eq_true rfl) rfl ?_
  intro w133 hS134
  have hb135 := low1 hb129 hS134.grw (by omega)
  refine wpo_nil ?_
  refine wpf_ret ?_
  refine thn_r ?_
  have hv : viewTh q.t l = q.t := viewTh_y h119
  rw [hv]
  refine ⟨.agg #[.int .i64 q.t.kind, .int .i64 q.t.lab.s, .int .i64 q.t.lab.v, .int .i64 q.t.ve, .int .i64 q.t.num, .slice a121 q.t.slots.length cap122, .slice a123 q.t.queue.length cap124, .int .i64 q.t.to], resC rfl (resCell_mk (vs := [.int .i64 q.t.kind, .int .i64 q.t.lab.s, .int .i64 q.t.lab.v, .int .i64 q.t.ve, .int .i64 q.t.num, .slice a121 q.t.slots.length cap122, .slice a123 q.t.queue.length cap124, .int .i64 q.t.to]) rt_35 rfl rfl (hS134.blk.rangeL 0 8 rfl)), a121, cap122, a123, cap124, rfl, (OwnN.typB hO130 hS134.grw k132 (by decide)), (OwnN.typB hO131 hS134.grw k132 (by decide)), hb135⟩
 ·
  refine wpf_skip ?_
  refine thn_n ?_
  refine wpf_seq_region ?_
  refine wpo_fieldAddr (o' := 0) fo_35_0 rfl rfl rfl ?_
  have k136 := (k114.grown0 hg117)
  refine wpo_load1 (v := .int .i64 q.t.kind) ot_3 rfl (k136.cell rfl) rfl ?_
  refine wpo_fieldAddr (o' := 1) fo_35_1 rfl rfl rfl ?_
  refine wpo_loadn (vs := [.int .i64 q.t.lab.s, .int .i64 q.t.lab.v]) rt_25 rfl rfl (k136.rangeL 1 2 rfl) rfl ?_
  refine wpo_fieldAddr (o' := 7) fo_35_6 rfl rfl rfl ?_
  refine wpo_load1 (v := .int .i64 q.t.to) ot_3 rfl (k136.cell rfl) rfl ?_
  rcases bcases ((decide (q.t.kind = 2)) || (decide (q.t.kind = 3))) with h137 | h137
  ·
   rcases bcases (newOk q.t.kind q.t.lab q.t.to) with h138 | h138
   ·
    have k139 := (k115.grown0 hg117)
    have k140 := (hN111.blk.grown0 hg117)
    have h141 : thingOk (⟨q.t.kind, q.t.lab, 0, 0, zeros4, [], q.t.to⟩ : Th) = true := (newOk_y h137).symm.trans h138
    refine wpo_call (vs := [.int .i64 q.t.kind, .agg #[.int .i64 q.t.lab.s, .int .i64 q.t.lab.v], .int .i64 q.t.to]) gf_17 (args_cons rfl (args_cons rfl (args_cons rfl args_nil))) rfl (ThingNew_yt q.t.kind q.t.to q.t.lab h137 h138 _) ?_
    rintro _ w142 ⟨B144, cap145, rfl, hge146, hO147, hg143⟩
    have hb148 := low0 hb118 hg143
    have hlB144 := Nat.le_trans hb118.size hge146
    have lt_B101_B144 := Nat.lt_of_lt_of_le (k136).lt hge146
    have lt_B105_B144 := Nat.lt_of_lt_of_le (k139).lt hge146
    have lt_B109_B144 := Nat.lt_of_lt_of_le (k140).lt hge146
    refine wpo_move (v := .tuple #[.agg #[.int .i64 q.t.kind, .int .i64 q.t.lab.s, .int .i64 q.t.lab.v, .int .i64 0, .int .i64 0, .slice (some ⟨B144, 0, none⟩) 4 cap145, .slice none 0 0, .int .i64 q.t.to], .bool true]) rfl rfl ?_
    refine wpo_extract (v := .agg #[.int .i64 q.t.kind, .int .i64 q.t.lab.s, .int .i64 q.t.lab.v, .int .i64 0, .int .i64 0, .slice (some ⟨B144, 0, none⟩) 4 cap145, .slice none 0 0, .int .i64 q.t.to]) rfl rfl rfl ?_
    refine wpo_extract (v := .bool true) rfl rfl rfl ?_
    refine wpo_alloc (cs := #[.int .i64 0, .int .i64 0, .int .i64 0, .int .i64 0, .int .i64 0, .slice none 0 0, .slice none 0 0, .int .i64 0]) zt_35 rfl rfl ?_
    intro B149 w150 hN151
    have hlB149 := hN_ge hN151 hb148
    have k152 := (k136.grown0 hg143)
    have lt_B101_B149 := hN_gtl hN151 (k152).lt
    have k153 := (k139.grown0 hg143)
    have lt_B105_B149 := hN_gtl hN151 (k153).lt
    have k154 := (k140.grown0 hg143)
    have lt_B109_B149 := hN_gtl hN151 (k154).lt
    have lt_B144_B149 := hN_gtl hN151 (hO147).lt
    have hb155 := low0 hb148 hN151.grw
    refine wpo_storen (vs := [.int .i64 q.t.kind, .int .i64 q.t.lab.s, .int .i64 q.t.lab.v, .int .i64 0, .int .i64 0, .slice (some ⟨B144, 0, none⟩) 4 cap145, .slice none 0 0, .int .i64 q.t.to]) (cs' := #[.int .i64 q.t.kind, .int .i64 q.t.lab.s, .int .i64 q.t.lab.v, .int .i64 0, .int .i64 0, .slice (some ⟨B144, 0, none⟩) 4 cap145, .slice none 0 0, .int .i64 q.t.to]) rt_35 rfl rfl rfl (by simp [Value.oneCell']) hN151.blk (Nat.le_of_ble_eq_true rfl) rfl ?_
    intro w156 hS157
    have hb158 := low1 hb155 hS157.grw (by omega)
    refine wpo_assign (v := .bool true) rfl rfl ?_
    refine wpo_nil ?_
    refine wpf_seq_region ?_
    refine wpo_loadn (vs := [.int .i64 q.t.kind, .int .i64 q.t.lab.s, .int .i64 q.t.lab.v, .int .i64 0, .int .i64 0, .slice (some ⟨B144, 0, none⟩) 4 cap145, .slice none 0 0, .int .i64 q.t.to]) rt_35 rfl rfl (hS157.blk.rangeL 0 8 rfl) rfl ?_
    have k159 := ((k154.grown0 hN151.grw).gn hS157.grw)
    refine wpo_storen (vs := [.int .i64 q.t.kind, .int .i64 q.t.lab.s, .int .i64 q.t.lab.v, .int .i64 0, .int .i64 0, .slice (some ⟨B144, 0, none⟩) 4 cap145, .slice none 0 0, .int .i64 q.t.to]) (cs' := #[.int .i64 q.t.kind, .int .i64 q.t.lab.s, .int .i64 q.t.lab.v, .int .i64 0, .int .i64 0, .slice (some ⟨B144, 0, none⟩) 4 cap145, .slice none 0 0, .int .i64 q.t.to]) rt_35 rfl rfl rfl (by simp [Value.oneCell']) k159 (Nat.le_of_ble_eq_true rfl) rfl ?_
    intro w160 hS161
    have hb162 := low1 hb158 hS161.grw (by omega)
    refine wpo_nil ?_
    refine wpf_ret ?_
    have hv : viewTh q.t l = ⟨q.t.kind, q.t.lab, 0, 0, zeros4, [], q.t.to⟩ := viewTh_ny h119 h138 h137
    have k163 := (((hO147.grown0 hN151.grw).gn hS157.grw).gn hS161.grw)
    rw [hv]
    refine ⟨.agg #[.int .i64 q.t.kind, .int .i64 q.t.lab.s, .int .i64 q.t.lab.v, .int .i64 0, .int .i64 0, .slice (some ⟨B144, 0, none⟩) 4 cap145, .slice none 0 0, .int .i64 q.t.to], resC rfl (resCell_mk (vs := [.int .i64 q.t.kind, .int .i64 q.t.lab.s, .int .i64 q.t.lab.v, .int .i64 0, .int .i64 0, .slice (some ⟨B144, 0, none⟩) 4 cap145, .slice none 0 0, .int .i64 q.t.to]) rt_35 rfl rfl (hS161.blk.rangeL 0 8 rfl)), some ⟨B144, 0, none⟩, cap145, none, 0, rfl, (OwnN.of k163 hlB144), OwnN.nil, hb162⟩
   ·
    have k164 := (k115.grown0 hg117)
    have k165 := (hN111.blk.grown0 hg117)
    have h166 : thingOk (⟨q.t.kind, q.t.lab, 0, 0, zeros4, [], q.t.to⟩ : Th) = false := (newOk_y h137).symm.trans h138
    refine wpo_call (vs := [.int .i64 q.t.kind, .agg #[.int .i64 q.t.lab.s, .int .i64 q.t.lab.v], .int .i64 q.t.to]) gf_17 (args_cons rfl (args_cons rfl (args_cons rfl args_nil))) rfl (ThingNew_yf q.t.kind q.t.to q.t.lab h137 h138 _) ?_
    rintro _ w167 ⟨rfl, hg168⟩
    have hb169 := low0 hb118 hg168
    refine wpo_move (v := .tuple #[.agg #[.int .i64 0, .int .i64 0, .int .i64 0, .int .i64 0, .int .i64 0, .slice none 0 0, .slice none 0 0, .int .i64 0], .bool false]) rfl rfl ?_
    refine wpo_extract (v := .agg #[.int .i64 0, .int .i64 0, .int .i64 0, .int .i64 0, .int .i64 0, .slice none 0 0, .slice none 0 0, .int .i64 0]) rfl rfl rfl ?_
    refine wpo_extract (v := .bool false) rfl rfl rfl ?_
    refine wpo_alloc (cs := #[.int .i64 0, .int .i64 0, .int .i64 0, .int .i64 0, .int .i64 0, .slice none 0 0, .slice none 0 0, .int .i64 0]) zt_35 rfl rfl ?_
    intro B170 w171 hN172
    have hlB170 := hN_ge hN172 hb169
    have k173 := (k136.grown0 hg168)
    have lt_B101_B170 := hN_gtl hN172 (k173).lt
    have k174 := (k164.grown0 hg168)
    have lt_B105_B170 := hN_gtl hN172 (k174).lt
    have k175 := (k165.grown0 hg168)
    have lt_B109_B170 := hN_gtl hN172 (k175).lt
    have hb176 := low0 hb169 hN172.grw
    refine wpo_storen (vs := [.int .i64 0, .int .i64 0, .int .i64 0, .int .i64 0, .int .i64 0, .slice none 0 0, .slice none 0 0, .int .i64 0]) (cs' := #[.int .i64 0, .int .i64 0, .int .i64 0, .int .i64 0, .int .i64 0, .slice none 0 0, .slice none 0 0, .int .i64 0]) rt_35 rfl rfl rfl (by simp [Value.oneCell']) hN172.blk (Nat.le_of_ble_eq_true rfl) rfl ?_
    intro w177 hS178
    have hb179 := low1 hb176 hS178.grw (by omega)
    refine wpo_assign (v := .bool false) rfl rfl ?_
    refine wpo_nil ?_
    refine wpf_seq_region ?_
    refine wpo_loadn (vs := [.int .i64 0, .int .i64 0, .int .i64 0, .int .i64 0, .int .i64 0, .slice none 0 0, .slice none 0 0, .int .i64 0]) rt_35 rfl rfl (hS178.blk.rangeL 0 8 rfl) rfl ?_
    have k180 := ((k175.grown0 hN172.grw).gn hS178.grw)
    refine wpo_storen (vs := [.int .i64 0, .int .i64 0, .int .i64 0, .int .i64 0, .int .i64 0, .slice none 0 0, .slice none 0 0, .int .i64 0]) (cs' := #[.int .i64 0, .int .i64 0, .int .i64 0, .int .i64 0, .int .i64 0, .slice none 0 0, .slice none 0 0, .int .i64 0]) rt_35 rfl rfl rfl (by simp [Value.oneCell']) k180 (Nat.le_of_ble_eq_true rfl) rfl ?_
    intro w181 hS182
    have hb183 := low1 hb179 hS182.grw (by omega)
    refine wpo_nil ?_
    refine wpf_ret ?_
    have hv : viewTh q.t l = Th.zero := viewTh_z h119 h138
    rw [hv]
    refine ⟨.agg #[.int .i64 0, .int .i64 0, .int .i64 0, .int .i64 0, .int .i64 0, .slice none 0 0, .slice none 0 0, .int .i64 0], resC rfl (resCell_mk (vs := [.int .i64 0, .int .i64 0, .int .i64 0, .int .i64 0, .int .i64 0, .slice none 0 0, .slice none 0 0, .int .i64 0]) rt_35 rfl rfl (hS182.blk.rangeL 0 8 rfl)), none, 0, none, 0, rfl, OwnN.nil, OwnN.nil, hb183⟩
  ·
   have h184 := or_l h137
   have h185 := of_decide_eq_false h184
   have h186 := or_r h137
   have h187 := of_decide_eq_false h186
   rcases bcases (newOk q.t.kind q.t.lab q.t.to) with h188 | h188
   ·
    have k189 := (k115.grown0 hg117)
    have k190 := (hN111.blk.grown0 hg117)
    have h191 : thingOk (⟨q.t.kind, q.t.lab, 0, 0, [], [], q.t.to⟩ : Th) = true := (newOk_n h137).symm.trans h188
    refine wpo_call (vs := [.int .i64 q.t.kind, .agg #[.int .i64 q.t.lab.s, .int .i64 q.t.lab.v], .int .i64 q.t.to]) gf_17 (args_cons rfl (args_cons rfl (args_cons rfl args_nil))) rfl (ThingNew_nt q.t.kind q.t.to q.t.lab h137 h188 _) ?_
    rintro _ w192 ⟨rfl, hg193⟩
    have hb194 := low0 hb118 hg193
    refine wpo_move (v := .tuple #[.agg #[.int .i64 q.t.kind, .int .i64 q.t.lab.s, .int .i64 q.t.lab.v, .int .i64 0, .int .i64 0, .slice none 0 0, .slice none 0 0, .int .i64 q.t.to], .bool true]) rfl rfl ?_
    refine wpo_extract (v := .agg #[.int .i64 q.t.kind, .int .i64 q.t.lab.s, .int .i64 q.t.lab.v, .int .i64 0, .int .i64 0, .slice none 0 0, .slice none 0 0, .int .i64 q.t.to]) rfl rfl rfl ?_
    refine wpo_extract (v := .bool true) rfl rfl rfl ?_
    refine wpo_alloc (cs := #[.int .i64 0, .int .i64 0, .int .i64 0, .int .i64 0, .int .i64 0, .slice none 0 0, .slice none 0 0, .int .i64 0]) zt_35 rfl rfl ?_
    intro B195 w196 hN197
    have hlB195 := hN_ge hN197 hb194
    have k198 := (k136.grown0 hg193)
    have lt_B101_B195 := hN_gtl hN197 (k198).lt
    have k199 := (k189.grown0 hg193)
    have lt_B105_B195 := hN_gtl hN197 (k199).lt
    have k200 := (k190.grown0 hg193)
    have lt_B109_B195 := hN_gtl hN197 (k200).lt
    have hb201 := low0 hb194 hN197.grw
    refine wpo_storen (vs := [.int .i64 q.t.kind, .int .i64 q.t.lab.s, .int .i64 q.t.lab.v, .int .i64 0, .int .i64 0, .slice none 0 0, .slice none 0 0, .int .i64 q.t.to]) (cs' := #[.int .i64 q.t.kind, .int .i64 q.t.lab.s, .int .i64 q.t.lab.v, .int .i64 0, .int .i64 0, .slice none 0 0, .slice none 0 0, .int .i64 q.t.to]) rt_35 rfl rfl rfl (by simp [Value.oneCell']) hN197.blk (Nat.le_of_ble_eq_true rfl) rfl ?_
    intro w202 hS203
    have hb204 := low1 hb201 hS203.grw (by omega)
    refine wpo_assign (v := .bool true) rfl rfl ?_
    refine wpo_nil ?_
    refine wpf_seq_region ?_
    refine wpo_loadn (vs := [.int .i64 q.t.kind, .int .i64 q.t.lab.s, .int .i64 q.t.lab.v, .int .i64 0, .int .i64 0, .slice none 0 0, .slice none 0 0, .int .i64 q.t.to]) rt_35 rfl rfl (hS203.blk.rangeL 0 8 rfl) rfl ?_
    have k205 := ((k200.grown0 hN197.grw).gn hS203.grw)
    refine wpo_storen (vs := [.int .i64 q.t.kind, .int .i64 q.t.lab.s, .int .i64 q.t.lab.v, .int .i64 0, .int .i64 0, .slice none 0 0, .slice none 0 0, .int .i64 q.t.to]) (cs' := #[.int .i64 q.t.kind, .int .i64 q.t.lab.s, .int .i64 q.t.lab.v, .int .i64 0, .int .i64 0, .slice none 0 0, .slice none 0 0, .int .i64 q.t.to]) rt_35 rfl rfl rfl (by simp [Value.oneCell']) k205 (Nat.le_of_ble_eq_true rfl) rfl ?_
    intro w206 hS207
    have hb208 := low1 hb204 hS207.grw (by omega)
    refine wpo_nil ?_
    refine wpf_ret ?_
    have hv : viewTh q.t l = ⟨q.t.kind, q.t.lab, 0, 0, [], [], q.t.to⟩ := viewTh_nn h119 h188 h137
    rw [hv]
    refine ⟨.agg #[.int .i64 q.t.kind, .int .i64 q.t.lab.s, .int .i64 q.t.lab.v, .int .i64 0, .int .i64 0, .slice none 0 0, .slice none 0 0, .int .i64 q.t.to], resC rfl (resCell_mk (vs := [.int .i64 q.t.kind, .int .i64 q.t.lab.s, .int .i64 q.t.lab.v, .int .i64 0, .int .i64 0, .slice none 0 0, .slice none 0 0, .int .i64 q.t.to]) rt_35 rfl rfl (hS207.blk.rangeL 0 8 rfl)), none, 0, none, 0, rfl, OwnN.nil, OwnN.nil, hb208⟩
   ·
    have k209 := (k115.grown0 hg117)
    have k210 := (hN111.blk.grown0 hg117)
    have h211 : thingOk (⟨q.t.kind, q.t.lab, 0, 0, [], [], q.t.to⟩ : Th) = false := (newOk_n h137).symm.trans h188
    refine wpo_call (vs := [.int .i64 q.t.kind, .agg #[.int .i64 q.t.lab.s, .int .i64 q.t.lab.v], .int .i64 q.t.to]) gf_17 (args_cons rfl (args_cons rfl (args_cons rfl args_nil))) rfl (ThingNew_nf q.t.kind q.t.to q.t.lab h137 h188 _) ?_
    rintro _ w212 ⟨rfl, hg213⟩
    have hb214 := low0 hb118 hg213
    refine wpo_move (v := .tuple #[.agg #[.int .i64 0, .int .i64 0, .int .i64 0, .int .i64 0, .int .i64 0, .slice none 0 0, .slice none 0 0, .int .i64 0], .bool false]) rfl rfl ?_
    refine wpo_extract (v := .agg #[.int .i64 0, .int .i64 0, .int .i64 0, .int .i64 0, .int .i64 0, .slice none 0 0, .slice none 0 0, .int .i64 0]) rfl rfl rfl ?_
    refine wpo_extract (v := .bool false) rfl rfl rfl ?_
    refine wpo_alloc (cs := #[.int .i64 0, .int .i64 0, .int .i64 0, .int .i64 0, .int .i64 0, .slice none 0 0, .slice none 0 0, .int .i64 0]) zt_35 rfl rfl ?_
    intro B215 w216 hN217
    have hlB215 := hN_ge hN217 hb214
    have k218 := (k136.grown0 hg213)
    have lt_B101_B215 := hN_gtl hN217 (k218).lt
    have k219 := (k209.grown0 hg213)
    have lt_B105_B215 := hN_gtl hN217 (k219).lt
    have k220 := (k210.grown0 hg213)
    have lt_B109_B215 := hN_gtl hN217 (k220).lt
    have hb221 := low0 hb214 hN217.grw
    refine wpo_storen (vs := [.int .i64 0, .int .i64 0, .int .i64 0, .int .i64 0, .int .i64 0, .slice none 0 0, .slice none 0 0, .int .i64 0]) (cs' := #[.int .i64 0, .int .i64 0, .int .i64 0, .int .i64 0, .int .i64 0, .slice none 0 0, .slice none 0 0, .int .i64 0]) rt_35 rfl rfl rfl (by simp [Value.oneCell']) hN217.blk (Nat.le_of_ble_eq_true rfl) rfl ?_
    intro w222 hS223
    have hb224 := low1 hb221 hS223.grw (by omega)
    refine wpo_assign (v := .bool false) rfl rfl ?_
    refine wpo_nil ?_
    refine wpf_seq_region ?_
    refine wpo_loadn (vs := [.int .i64 0, .int .i64 0, .int .i64 0, .int .i64 0, .int .i64 0, .slice none 0 0, .slice none 0 0, .int .i64 0]) rt_35 rfl rfl (hS223.blk.rangeL 0 8 rfl) rfl ?_
    have k225 := ((k220.grown0 hN217.grw).gn hS223.grw)
    refine wpo_storen (vs := [.int .i64 0, .int .i64 0, .int .i64 0, .int .i64 0, .int .i64 0, .slice none 0 0, .slice none 0 0, .int .i64 0]) (cs' := #[.int .i64 0, .int .i64 0, .int .i64 0, .int .i64 0, .int .i64 0, .slice none 0 0, .slice none 0 0, .int .i64 0]) rt_35 rfl rfl rfl (by simp [Value.oneCell']) k225 (Nat.le_of_ble_eq_true rfl) rfl ?_
    intro w226 hS227
    have hb228 := low1 hb224 hS227.grw (by omega)
    refine wpo_nil ?_
    refine wpf_ret ?_
    have hv : viewTh q.t l = Th.zero := viewTh_z h119 h188
    rw [hv]
    refine ⟨.agg #[.int .i64 0, .int .i64 0, .int .i64 0, .int .i64 0, .int .i64 0, .slice none 0 0, .slice none 0 0, .int .i64 0], resC rfl (resCell_mk (vs := [.int .i64 0, .int .i64 0, .int .i64 0, .int .i64 0, .int .i64 0, .slice none 0 0, .slice none 0 0, .int .i64 0]) rt_35 rfl rfl (hS227.blk.rangeL 0 8 rfl)), none, 0, none, 0, rfl, OwnN.nil, OwnN.nil, hb228⟩
end Go.Dw.J
end
section
namespace Go.Dw.J
open Go.RowKit Go.Dw Go.Proofs
set_option linter.unusedSectionVars false
set_option maxRecDepth 100000
set_option maxHeartbeats 4000000
set_option linter.unusedSimpArgs false
set_option linter.unusedVariables false
theorem l3Copy_c [Comp] (w : World) (ms : List MTh) (a : Option Addr) (c : Nat) (ht : TabAt w a ms) (hlen : TabLen ms) (hn : ms.length ≤ 1048576) : CallsR Try.prog 59 #[.slice a ms.length c] w (fun v w' => ∃ (B cap : Nat) (ys : List MTh), v = .slice (some ⟨B, 0, none⟩) ys.length cap ∧ tabT ys = tabT ms ∧ w.heap.size ≤ B ∧ Dw.Own w' B 35 8 cap ys.length (ys.flatMap MTh.cells) ∧ RowsO 74 3 w.heap.size w' ys ∧ w.grownBy w' none) := by
 refine calls_of_wpf (n := 32) Try.func59 rfl Try.ntmps59 rfl ?_
 have hb0 := World.grownBy.refl w none
 refine wpf_seq_region ?_
 refine wpo_assign (v := .slice none 0 0) rfl rfl ?_
 refine wpo_nil ?_
 refine wpf_seq_region ?_
 refine wpo_buildSlice (ps := []) (e := 35) (cs := (([] : List MTh).flatMap MTh.cells).toArray) parts_nil (fun _ => by kernel_rfl) rfl ?_
 intro B101 w102 hN103
 have hlB101 := hN_ge hN103 hb0
 have hb104 := low0 hb0 hN103.grw
 refine wpo_assign (v := .slice (some ⟨B101, 0, none⟩) 0 0) rfl rfl ?_
 refine wpo_nil ?_
 refine wpf_seq ?_
 refine wpf_seq_region ?_
 refine wpo_assign (v := .int .i64 0) rfl rfl ?_
 refine wpo_nil ?_
 refine wpf_block ?_
 refine wpf_loopN (fun mm f' w' => ∃ (k : Nat) (Bt : Nat) (ct : Nat) (ys : List MTh), mm = ms.length - k ∧ k ≤ ms.length ∧ ys.length = k ∧ tabT ys = (tabT ms).take k ∧ RowsO 74 3 w.heap.size w' ys ∧ Dw.Own w' Bt 35 8 ct ys.length (ys.flatMap MTh.cells) ∧ w.heap.size ≤ Bt ∧ f' 3 = .slice (some ⟨Bt, 0, none⟩) ys.length ct ∧ f' 4 = .int .i64 (k : Int) ∧ f' 0 = .slice a ms.length c ∧ f' 2 = .slice none 0 0 ∧ w.grownBy w' none) (ms.length - 0) ⟨0, B101, 0, ([] : List MTh), rfl, (Nat.zero_le _), rfl, rfl, RowsO.nil, (Own.rows wide_mth hN103.blk (by simp)), hlB101, rfl, rfl, rfl, rfl, hb104⟩ ?_
 rintro mm f105 w106 ⟨k, Bt, ct, ys, hm108, hk, hyk, hyt, hRO, hOt, hlBt, e109, e110, e111, e112, hb107⟩
 obtain ⟨hi, hhi⟩ : ∃ n, n = w106.heap.size := ⟨_, rfl⟩
 have hH3 := RowsO.hi hRO
 rw [← hhi] at hH3
 have hhw : w.heap.size ≤ hi := by rw [hhi]; exact hb107.size
 have hbt3 := hOt.lt
 refine wpf_seq ?_
 refine wpf_seq_region ?_
 refine wpo_move (v := .int .i64 (k : Int)) e110 rfl ?_
 refine wpo_move (v := .slice a ms.length c) e111 rfl ?_
 refine wpo_len (by kernel_rfl) rfl rfl ?_
 refine wpo_lss (q := decide ((k : Int) < (ms.length : Int))) rfl rfl rfl rfl ?_
 refine wpo_nil ?_
 refine wpf_cond rfl (fun h113 => ?_) (fun h113 => ?_)
 ·
  have h114 := of_decide_eq_true h113
  refine wpf_skip ?_
  refine thn_n ?_
  refine wpf_seq ?_
  refine wpf_block ?_
  refine wpf_seq_region ?_
  refine wpo_move (v := .slice a ms.length c) e111 rfl ?_
  refine wpo_move (v := .int .i64 (k : Int)) e110 rfl ?_
  obtain ⟨b117, q118, o119, ha120, ho121, hr122⟩ := SlAt.at (TabAt.low ht hb107).1 (map_get (mAt_get (show k < ms.length by omega)))
  have hle123 := TabLen.at hlen (mAt_get (show k < ms.length by omega))
  refine wpo_indexE es_23 rfl rfl ha120 ho121 (by omega) (by omega) rfl ?_
  refine wpo_loadn (vs := [.int .i64 ((mAt ms k).t.kind), .int .i64 ((mAt ms k).t.lab.s), .int .i64 ((mAt ms k).t.lab.v), .int .i64 ((mAt ms k).t.ve), .int .i64 ((mAt ms k).t.num), .slice ((mAt ms k).sa) ((mAt ms k).t.slots.length) ((mAt ms k).sc), .slice ((mAt ms k).qa) ((mAt ms k).t.queue.length) ((mAt ms k).qc), .int .i64 ((mAt ms k).t.to)]) rt_35 rfl rfl (range_sub hr122 0 8 rfl) rfl ?_
  refine wpo_alloc (cs := #[.int .i64 0, .int .i64 0, .int .i64 0, .int .i64 0, .int .i64 0, .slice none 0 0, .slice none 0 0, .int .i64 0]) zt_35 rfl rfl ?_
  intro B124 w125 hN126
  have hlB124 := hN_ge hN126 hb107
  have hhiB124 : hi ≤ B124 := Nat.le_trans (Nat.le_of_eq hhi) hN126.ge
  have lt_Bt_B124 := hN_gtl hN126 (hOt).lt
  have hb127 := low0 hb107 hN126.grw
  refine wpo_storen (vs := [.int .i64 ((mAt ms k).t.kind), .int .i64 ((mAt ms k).t.lab.s), .int .i64 ((mAt ms k).t.lab.v), .int .i64 ((mAt ms k).t.ve), .int .i64 ((mAt ms k).t.num), .slice ((mAt ms k).sa) ((mAt ms k).t.slots.length) ((mAt ms k).sc), .slice ((mAt ms k).qa) ((mAt ms k).t.queue.length) ((mAt ms k).qc), .int .i64 ((mAt ms k).t.to)]) (cs' := #[.int .i64 ((mAt ms k).t.kind), .int .i64 ((mAt ms k).t.lab.s), .int .i64 ((mAt ms k).t.lab.v), .int .i64 ((mAt ms k).t.ve), .int .i64 ((mAt ms k).t.num), .slice ((mAt ms k).sa) ((mAt ms k).t.slots.length) ((mAt ms k).sc), .slice ((mAt ms k).qa) ((mAt ms k).t.queue.length) ((mAt ms k).qc), .int .i64 ((mAt ms k).t.to)]) rt_35 rfl rfl rfl (by simp [Value.oneCell']) hN126.blk (Nat.le_of_ble_eq_true rfl) rfl ?_
  intro w128 hS129
  have hb130 := low1 hb127 hS129.grw (by omega)
  refine wpo_nil ?_
  refine wpf_seq_region ?_
  refine wpo_buildSlice (ps := []) (e := 74) (cs := (([] : List Rt).flatMap Rt.cells).toArray) parts_nil (fun _ => by kernel_rfl) rfl ?_
  intro B131 w132 hN133
  have hlB131 := hN_ge hN133 hb130
  have hhiB131 : hi ≤ B131 := Nat.le_trans (Nat.le_trans (Nat.le_trans (Nat.le_of_eq hhi) hN126.grw.size) hS129.grw.size) hN133.ge
  have k134 := ((hOt.grown0 hN126.grw).gn hS129.grw)
  have lt_Bt_B131 := hN_gtl hN133 (k134).lt
  have lt_B124_B131 := hN_gtl hN133 (hS129.blk).lt
  have hb135 := low0 hb130 hN133.grw
  refine wpo_fieldAddr (o' := 5) fo_35_4 rfl rfl rfl ?_
  have k136 := (hS129.blk.grown0 hN133.grw)
  refine wpo_load1 (v := .slice ((mAt ms k).sa) ((mAt ms k).t.slots.length) ((mAt ms k).sc)) ot_32 rfl (k136.cell rfl) rfl ?_
  have k137 := (k134.grown0 hN133.grw)
  refine wpo_appendN (g := Rt.cells) (ys := ([])) (zs := ((mAt ms k).t.slots)) (lo := hi) mk_32 rfl wide_rt (by omega) onec_rt rfl rfl (OwnN.of (Own.rows wide_rt hN133.blk (by simp)) hhiB131) (TabAt.th (TabAt.low ht hb135) (mAt_get (show k < ms.length by omega))).1 (TabAt.th (TabAt.low ht hb135) (mAt_get (show k < ms.length by omega))).2.2.1 (by first | omega | exact Nat.le_of_ble_eq_true rfl | (simp only [List.length_nil, List.length_cons, List.length_append, List.length_replicate]; omega) | (simp only [List.length_drop, List.length_nil]; omega)) (by omega) (Nat.le_trans (Nat.le_trans (Nat.le_trans (Nat.le_of_eq hhi) hN126.grw.size) hS129.grw.size) hN133.grw.size) rfl ?_
  intro a138 cap139 w140 hO141 hg142 hor143
  have hg144 : World.grownBy w132 w140 (some B131) := hg142
  have hb145 := low1 hb135 hg144 (by omega)
  refine wpo_fieldAddr (o' := 5) fo_35_4 rfl rfl rfl ?_
  have k146 := (k136.gn hg144)
  refine wpo_store1 (v := .slice a138 (((mAt ms k).t.slots).length) cap139) (cs' := #[.int .i64 ((mAt ms k).t.kind), .int .i64 ((mAt ms k).t.lab.s), .int .i64 ((mAt ms k).t.lab.v), .int .i64 ((mAt ms k).t.ve), .int .i64 ((mAt ms k).t.num), .slice a138 (((mAt ms k).t.slots).length) cap139, .slice ((mAt ms k).qa) ((mAt ms k).t.queue.length) ((mAt ms k).qc), .int .i64 ((mAt ms k).t.to)]) ot_32 rfl rfl rfl k146 (Nat.le_of_ble_eq_true rfl) rfl ?_
  intro w147 hS148
  have hb149 := low1 hb145 hS148.grw (by omega)
  refine wpo_nil ?_
  refine wpf_seq_region ?_
  refine wpo_buildSlice (ps := []) (e := 3) (cs := (([] : List Int).flatMap icell).toArray) parts_nil (fun _ => by kernel_rfl) rfl ?_
  intro B150 w151 hN152
  have hlB150 := hN_ge hN152 hb149
  have hhiB150 : hi ≤ B150 := Nat.le_trans (Nat.le_trans (Nat.le_trans (Nat.le_trans (Nat.le_trans (Nat.le_trans (Nat.le_of_eq hhi) hN126.grw.size) hS129.grw.size) hN133.grw.size) hg144.size) hS148.grw.size) hN152.ge
  have k153 := ((k137.gn hg144).gn hS148.grw)
  have lt_Bt_B150 := hN_gtl hN152 (k153).lt
  have lt_B124_B150 := hN_gtl hN152 (hS148.blk).lt
  have hb154 := low0 hb149 hN152.grw
  refine wpo_fieldAddr (o' := 6) fo_35_5 rfl rfl rfl ?_
  have k155 := (hS148.blk.grown0 hN152.grw)
  refine wpo_load1 (v := .slice ((mAt ms k).qa) ((mAt ms k).t.queue.length) ((mAt ms k).qc)) ot_33 rfl (k155.cell rfl) rfl ?_
  have k156 := (k153.grown0 hN152.grw)
  refine wpo_appendN (g := icell) (ys := ([])) (zs := ((mAt ms k).t.queue)) (lo := hi) mk_33 rfl wide_int (by omega) onec_int rfl rfl (OwnN.of (Own.rows wide_int hN152.blk (by simp)) hhiB150) (TabAt.th (TabAt.low ht hb154) (mAt_get (show k < ms.length by omega))).2.1 (TabAt.th (TabAt.low ht hb154) (mAt_get (show k < ms.length by omega))).2.2.2 (by first | omega | exact Nat.le_of_ble_eq_true rfl | (simp only [List.length_nil, List.length_cons, List.length_append, List.length_replicate]; omega) | (simp only [List.length_drop, List.length_nil]; omega)) (by omega) (Nat.le_trans (Nat.le_trans (Nat.le_trans (Nat.le_trans (Nat.le_trans (Nat.le_trans (Nat.le_of_eq hhi) hN126.grw.size) hS129.grw.size) hN133.grw.size) hg144.size) hS148.grw.size) hN152.grw.size) rfl ?_
  intro a157 cap158 w159 hO160 hg161 hor162
  have hg163 : World.grownBy w151 w159 (some B150) := hg161
  have hb164 := low1 hb154 hg163 (by omega)
  refine wpo_fieldAddr (o' := 6) fo_35_5 rfl rfl rfl ?_
  have k165 := (k155.gn hg163)
  refine wpo_store1 (v := .slice a157 (((mAt ms k).t.queue).length) cap158) (cs' := #[.int .i64 ((mAt ms k).t.kind), .int .i64 ((mAt ms k).t.lab.s), .int .i64 ((mAt ms k).t.lab.v), .int .i64 ((mAt ms k).t.ve), .int .i64 ((mAt ms k).t.num), .slice a138 (((mAt ms k).t.slots).length) cap139, .slice a157 (((mAt ms k).t.queue).length) cap158, .int .i64 ((mAt ms k).t.to)]) ot_33 rfl rfl rfl k165 (Nat.le_of_ble_eq_true rfl) rfl ?_
  intro w166 hS167
  have hb168 := low1 hb164 hS167.grw (by omega)
  refine wpo_nil ?_
  refine wpf_region ?_
  refine wpo_move (v := .slice (some ⟨Bt, 0, none⟩) ys.length ct) e109 rfl ?_
  refine wpo_loadn (vs := [.int .i64 ((mAt ms k).t.kind), .int .i64 ((mAt ms k).t.lab.s), .int .i64 ((mAt ms k).t.lab.v), .int .i64 ((mAt ms k).t.ve), .int .i64 ((mAt ms k).t.num), .slice a138 (((mAt ms k).t.slots).length) cap139, .slice a157 (((mAt ms k).t.queue).length) cap158, .int .i64 ((mAt ms k).t.to)]) rt_35 rfl rfl (hS167.blk.rangeL 0 8 rfl) rfl ?_
  refine wpo_buildSlice (ps := [(0, .agg #[.int .i64 ((mAt ms k).t.kind), .int .i64 ((mAt ms k).t.lab.s), .int .i64 ((mAt ms k).t.lab.v), .int .i64 ((mAt ms k).t.ve), .int .i64 ((mAt ms k).t.num), .slice a138 (((mAt ms k).t.slots).length) cap139, .slice a157 (((mAt ms k).t.queue).length) cap158, .int .i64 ((mAt ms k).t.to)])]) (e := 35) (cs := (([(⟨⟨(mAt ms k).t.kind, ((mAt ms k).t.lab), (mAt ms k).t.ve, (mAt ms k).t.num, ((mAt ms k).t.slots), ((mAt ms k).t.queue), (mAt ms k).t.to⟩, a138, cap139, a157, cap158⟩ : MTh)] : List MTh).flatMap MTh.cells).toArray) (parts_cons rfl parts_nil) (fun _ => by kernel_rfl) rfl ?_
  intro B169 w170 hN171
  have hlB169 := hN_ge hN171 hb168
  have hhiB169 : hi ≤ B169 := Nat.le_trans (Nat.le_trans (Nat.le_trans (Nat.le_trans (Nat.le_trans (Nat.le_trans (Nat.le_trans (Nat.le_trans (Nat.le_trans (Nat.le_of_eq hhi) hN126.grw.size) hS129.grw.size) hN133.grw.size) hg144.size) hS148.grw.size) hN152.grw.size) hg163.size) hS167.grw.size) hN171.ge
  have k172 := ((k156.gn hg163).gn hS167.grw)
  have lt_Bt_B169 := hN_gtl hN171 (k172).lt
  have lt_B124_B169 := hN_gtl hN171 (hS167.blk).lt
  have hb173 := low0 hb168 hN171.grw
  have k174 := (k172.grown0 hN171.grw)
  have k175 := (hS167.blk.grown0 hN171.grw)
  refine wpo_append (g := MTh.cells) (ys := ys) (zs := ([(⟨⟨(mAt ms k).t.kind, ((mAt ms k).t.lab), (mAt ms k).t.ve, (mAt ms k).t.num, ((mAt ms k).t.slots), ((mAt ms k).t.queue), (mAt ms k).t.to⟩, a138, cap139, a157, cap158⟩ : MTh)] : List MTh)) mk_23 rfl wide_mth (by omega) onec_mth rfl rfl k174 (rows_sl wide_mth hN171.blk) (by simp only [List.length_cons, List.length_nil]; omega) (by omega) rfl ?_
  intro B176 cap177 w178 hO179 hg180 hor181
  have hlB176 : w.heap.size ≤ B176 := by rcases hor181 with h | h; (rw [h]; exact hlBt); exact Nat.le_trans hb173.size h
  have ne_B124_B176 : B124 ≠ B176 := by have h := (k175).lt; omega
  have ne_B169_B176 : B169 ≠ B176 := by have h := (hN171.blk).lt; omega
  have hb182 := low1 hb173 hg180 (by omega)
  refine wpo_assign (v := .slice (some ⟨B176, 0, none⟩) ((ys ++ ([(⟨⟨(mAt ms k).t.kind, ((mAt ms k).t.lab), (mAt ms k).t.ve, (mAt ms k).t.num, ((mAt ms k).t.slots), ((mAt ms k).t.queue), (mAt ms k).t.to⟩, a138, cap139, a157, cap158⟩ : MTh)] : List MTh)).length) cap177) rfl rfl ?_
  refine wpo_nil ?_
  refine blk_n ?_
  refine thn_n ?_
  refine wpf_region ?_
  refine wpo_move (v := .int .i64 (k : Int)) e110 rfl ?_
  refine wpo_add (c := (k : Int) + 1) rfl rfl (by omega) (by omega) (by omega) rfl ?_
  refine wpo_assign (v := .int .i64 ((k : Int) + 1)) rfl rfl ?_
  refine wpo_nil ?_
  refine thn_n ?_
  have hS183 := (OwnN.typ ((OwnN.typB (OwnN.typ ((OwnN.typB hO141 hS148.grw k146 (by decide)).grown0 hN152.grw) hg163 (Own.rows wide_int hN152.blk (by simp)) (by decide)) hS167.grw k165 (by decide)).grown0 hN171.grw) hg180 k174 (by decide))
  exact ⟨ms.length - (k + 1), by omega, (k + 1), B176, cap177, (ys ++ ([(⟨⟨(mAt ms k).t.kind, ((mAt ms k).t.lab), (mAt ms k).t.ve, (mAt ms k).t.num, ((mAt ms k).t.slots), ((mAt ms k).t.queue), (mAt ms k).t.to⟩, a138, cap139, a157, cap158⟩ : MTh)] : List MTh)), rfl, (by omega), (by rw [List.length_append, hyk]; rfl), (tabT_snoc hyt (mAt_get (show k < ms.length by omega)) rfl), (RowsO.snoc (RowsO.own (RowsO.low (RowsO.ge (RowsO.ge (RowsO.low (RowsO.ge (RowsO.ge (RowsO.low (RowsO.ge (RowsO.low hRO hN126.grw) hS129.grw hH3 (by omega)) hN133.grw) hg144 hH3 (by omega)) hS148.grw hH3 (by omega)) hN152.grw) hg163 hH3 (by omega)) hS167.grw hH3 (by omega)) hN171.grw) hg180 k174 (by decide) (by decide)) ⟨OwnN.mono (OwnN.typ ((OwnN.typB (OwnN.typ ((OwnN.typB hO141 hS148.grw k146 (by decide)).grown0 hN152.grw) hg163 (Own.rows wide_int hN152.blk (by simp)) (by decide)) hS167.grw k165 (by decide)).grown0 hN171.grw) hg180 k174 (by decide)) hhw, OwnN.mono (OwnN.typ ((OwnN.typB hO160 hS167.grw k165 (by decide)).grown0 hN171.grw) hg180 k174 (by decide)) hhw⟩ hH3 (fun S e => (ownN_hi hS183 e).2)), hO179, hlB176, rfl, rfl, e111, e112, hb182⟩
 ·
  have h184 := of_decide_eq_false h113
  refine wpf_exit ?_
  refine thn_e ?_
  refine thn_e ?_
  refine blk_e ?_
  refine thn_n ?_
  refine wpf_seq_region ?_
  refine wpo_move (v := .slice (some ⟨Bt, 0, none⟩) ys.length ct) e109 rfl ?_
  refine wpo_assign (v := .slice (some ⟨Bt, 0, none⟩) ys.length ct) rfl rfl ?_
  refine wpo_nil ?_
  refine wpf_ret ?_
  exact ⟨.slice (some ⟨Bt, 0, none⟩) ys.length ct, res1 rfl rfl, Bt, ct, ys, rfl, tabT_all hyt (by omega), hlBt, hOt, hRO, hb107⟩
end Go.Dw.J
end
section
namespace Go.Dw.J
open Go.Dw Go.RowKit
open Go.Conc (G)
set_option linter.unusedVariables false
set_option linter.unusedSimpArgs false
set_option linter.unusedSectionVars false
inductive Tree
  | stop
  | node (kids : World → Tree)
def Tree.Kid (t' t : Tree) : Prop := ∃ k w, t = .node k ∧ t' = k w
theorem tree_acc : ∀ t : Tree, Acc Tree.Kid t
  | .stop => ⟨_, fun _ ⟨_, _, h, _⟩ => by cases h⟩
  | .node k => ⟨_, fun _ ⟨k', w, h, h'⟩ => by cases h; subst h'; exact tree_acc (k w)⟩
def chain : Nat → Tree
  | 0 => .stop
  | n + 1 => .node fun _ => chain n
theorem chain_kid (n : Nat) : Tree.Kid (chain n) (chain (n + 1)) := ⟨fun _ => chain n, default, rfl, rfl⟩
section
variable [Comp] {P : Program}
def Let (A w A' w' : World) (es : Array Event) : Prop := (A'.tape = A.tape ∧ Turns A w A' w' ∧ ∀ e ∈ es, EvOk A' e) ∨ Comp.sp A w A' w' es
def Fits (P : Program) (Stop : Goroutine → World → Prop) : Tree → Goroutine → World → Prop
  | .stop, g, A => Stop g A
  | .node k, g, A => g.status = .running ∧ ∀ w, Sees A w → Comp.inv A w → ∃ g' A' w' es, stepG P Comp.main g w = .go g' w' es ∧ Sees A' w' ∧ Let A w A' w' es ∧ ∃ A0, Ext A0 A' ∧ A'.tape = A0.tape ∧ Fits P Stop (k w) g' A0
def GoJ (P : Program) (Stop : Goroutine → World → Prop) (g : Goroutine) (A : World) : Prop := ∃ T A0, Ext A0 A ∧ A.tape = A0.tape ∧ Fits P Stop T g A0
theorem goJ_stop {Stop : Goroutine → World → Prop} {g : Goroutine} {A : World} (h : Stop g A) : GoJ P Stop g A := ⟨.stop, A, Ext.refl A, rfl, h⟩
theorem goJ_closed {Stop : Goroutine → World → Prop} (hok : Comp.ok (GoJ P Stop)) : Closed P (GoJ P Stop) := by
  refine ⟨fun g A h => ?_, fun g A A1 he ht ⟨T, A0, h1, h2, h3⟩ => ⟨T, A0, h1.trans he, ht.trans h2, h3⟩, hok⟩
  obtain ⟨hr, h⟩ := h
  have hch : ∀ w, ∃ T : Tree, Sees A w → Comp.inv A w → ∃ g' A' w' es, stepG P Comp.main g w = .go g' w' es ∧ Sees A' w' ∧ Let A w A' w' es ∧ ∃ A0, Ext A0 A' ∧ A'.tape = A0.tape ∧ Fits P Stop T g' A0 := fun w => by
    by_cases hs : Sees A w
    · by_cases hi : Comp.inv A w
      · obtain ⟨g', A', w', es, h1, h2, h3, T, A0, h4, h5, h6⟩ := h w hs hi
        exact ⟨T, fun _ _ => ⟨g', A', w', es, h1, h2, h3, A0, h4, h5, h6⟩⟩
      · exact ⟨.stop, fun _ h => absurd h hi⟩
    · exact ⟨.stop, fun h => absurd h hs⟩
  exact ⟨.node fun w => (hch w).choose, A, Ext.refl A, rfl, hr, fun w hs hi => (hch w).choose_spec hs hi⟩
end
def mkT (l : List Nat) : Tape := fun i _ => l.getD i 0
end Go.Dw.J
end
section
namespace Go.Dw.J
open Go.Dw Go.RowKit
open Go.Conc (G)
set_option linter.unusedVariables false
set_option linter.unusedSimpArgs false
set_option linter.unusedSectionVars false
section
variable [Comp] {P : Program}
def EntryR (P : Program) (k : FuncId) (args : Array Value) (A : World) (R : Value → World → Prop) : Prop := ∀ (ops : Array Oper) (o : Oper), Special P ops o (callFunc k args) A R
theorem entry_step {k : FuncId} {fn : Func} {args : Array Value} {A : World} {R : Value → World → Prop} {e : Array Value → Sem Value} (hf : P.funcs[k]? = some fn) (hname : (fn.name == "runtime.NumGoroutine") = false) (hb : fn.body.isNone = true) (hn : Extern.findNext fn = none) (he : Extern.find fn = some e)
    (h : ∀ w, Sees A w → Comp.inv A w → ∃ v A' w' evs, (e args).run P w = .ok v w' ∧ (e args).events P w #[⟨.mark (.extern k), false, true⟩] = #[⟨.mark (.extern k), false, true⟩] ++ evs ∧ (∀ x ∈ evs, x.sync = true ∧ ∀ g, x.loc ≠ .mark (.extern g)) ∧ Sees A' w' ∧ Let A w A' w' evs ∧ R v A') :
    EntryR P k args A R := fun ops o J hJ b hbk i rest kk cs a o' ho hd hw hs hk => by
  refine hJ.step _ _ ⟨rfl, fun w h1 h2 => ?_⟩
  obtain ⟨v, A', w', evs, h3, h4, h5, h6, h7, h8⟩ := h w h1 h2
  have hr : (execOp a.eval o').run P w = .ok (.value v) w' := by rw [hs, Go.run_callFunc_extern hf hname hb hn he, h3]; rfl
  refine ⟨_, A', w', evs, ?_, h6, h7, hk v A' h8⟩
  rw [stepG_value ho hw hbk hr, hd]
  unfold Go.Conc.listed
  rw [hs, Go.Conc.events_callFunc_extern hf hname hb hn he]
  simp only [List.push_toArray, List.nil_append]
  rw [h4, Go.Conc.seen_entry _ _ _ h5]
variable {n : Nat} {ops : Array Oper} {K : Fr → World → Prop} {l : List Oper} {f : Fr} {w : World} {ty : TypeId} {pos : String} {aft : Array Edge} {d : Nat}
theorem wpo_entry {k : FuncId} {args : Array Operand} {tys : Array TypeId} {vs : List Value} {R : Value → World → Prop} (ha : args.toList.map (ev f) = vs) (hd : Nat.blt d n = true) (hc : EntryR P k vs.toArray w R)
    (h : ∀ v w', R v w' → WpO P n ops K l (up f d v) w') : WpO P n ops K (⟨some d, .call ⟨.value (.func k), args, tys⟩, ty, pos, aft, none⟩ :: l) f w := fun a hfa => by
  have e1 : args.map (ev f) = vs.toArray := by rw [← ha]; apply Array.ext'; simp
  have e2 : execOp a.eval ⟨some d, .call ⟨.value (.func k), args, tys⟩, ty, pos, aft, none⟩ = callFunc k vs.toArray := by
    rw [Go.Conc.execOp_call_func (a := a) rfl, hfa.eval, e1]
  exact Or.inl ⟨by simp [Region.wanted], Or.inr ⟨R, by rw [e2]; exact hc ops _, fun v A' hR => ⟨_, hfa.put hd v, h v A' hR⟩⟩⟩
end
end Go.Dw.J
end
section
namespace Go.Dw.J
open Go.Dw Go.RowKit
open Go.Conc (G crowd Past Leavers EvL Deaf_other mem_ofEvents crowd_pick awake_of woken_quitsD woken_run runT_crowd_go runT_many_ended Deaf_own)
open Go.ConcN (sumTo upd sumTo_upd upd_ne upd_same)
set_option linter.unusedVariables false
set_option linter.unusedSimpArgs false
set_option linter.unusedSectionVars false
def Runs (P : Program) (Post : Value → World → Prop) (m : Machine) (t : Trace) : Prop :=
  ∃ N last o w' t', runNT P (N + 1) m t = (.ended o w', t') ∧ runN P N m = .next last ∧ step P last = .ended o w' ∧ Go.Conc.Good P Post last o w' t'
theorem Runs.step {P : Program} {Post : Value → World → Prop} {m m' : Machine} {t : Trace} {ops : Array MemOp} (hs : stepT P m = (.next m', ops)) (h : Runs P Post m' (t ++ ops)) : Runs P Post m t := by
  obtain ⟨N, last, o, w', t', h1, h2, h3, h4⟩ := h
  exact ⟨N + 1, last, o, w', t', by rw [runNT_succ_next hs]; exact h1, by rw [runN_succ_next hs]; exact h2, h3, h4⟩
theorem sees_at {A w : World} (h : Sees A w) (d : Nat) : Sees A (w.at d) := ⟨h.os, h.output, h.size, h.vis, h.nv⟩
class KeepD where
  B0 : Nat
  Wi : World
def Keep [KeepD] (A w : World) : Prop := KeepD.B0 ≤ w.heap.size ∧ ∀ b, b < KeepD.B0 → (Seen A b ∧ A.heap[b]? = w.heap[b]?) ∨ (¬ Seen A b ∧ w.heap[b]? = KeepD.Wi.heap[b]?)
theorem Keep.turns [KeepD] {A w A' w' : World} (h : Keep A w) (hT : Turns A w A' w') : Keep A' w' :=
  ⟨Nat.le_trans h.1 hT.le, fun b hb => (h.2 b hb).elim (fun ⟨h1, h2⟩ => .inl ⟨hT.see b h1, hT.eq b h1 h2⟩) fun ⟨h1, h2⟩ => .inr ⟨(hT.hid b (Nat.lt_of_lt_of_le hb h.1) h1).2, (hT.hid b (Nat.lt_of_lt_of_le hb h.1) h1).1.trans h2⟩⟩
def inBlk (b : Nat) : Loc → Prop
  | .cell a => a.block = b
  | .obj r => r = b
  | _ => False
structure BesInv [KeepD] (P : Program) (g : Goroutine) (A : World) (gs : Array Goroutine) (w : World) (t : Trace) (q : Nat → Nat) (Shun : Loc → Prop) : Prop where
  at0 : gs[0]? = some g
  tape : A.tape = mkT []
  gsz : ∀ op ∈ t, op.g < gs.size
  sees : Sees A w
  old : Leavers P t gs q
  past : Past Shun w.heap.size t
  quiet : Go.Conc.Quiet Shun t
  hid : ∀ l b, Shun l → inBlk b l → b < w.heap.size ∧ ¬ Seen A b
  lies : ∀ l, Shun l → ∃ b, inBlk b l
  keep : Keep A w
def Bes [KeepD] (P : Program) (Post : Value → World → Prop) (g : Goroutine) (A : World) : Prop :=
  ∀ gs w sl t q Shun, BesInv P g A gs w t q Shun → Runs P Post (crowd gs w sl) t
theorem gsz_ofEvents {t : Trace} {n g : Nat} {fn : FuncId} {pos : String} {es : Array Event} (h : ∀ op ∈ t, op.g < n) (hg : g < n) : ∀ op ∈ t ++ MemOp.ofEvents g fn pos es, op.g < n := fun op hop => by
  rcases Array.mem_append.1 hop with h1 | h1
  · exact h op h1
  · obtain ⟨e, _, rfl⟩ := Go.Conc.mem_ofEvents h1
    exact hg
theorem evOk_evL {A w : World} {e : Event} {Shun : Loc → Prop} (h : EvOk A e) (hA : A.heap.size ≤ w.heap.size) (hS : ∀ l b, Shun l → inBlk b l → ¬ Seen A b) : EvL Shun w.heap.size e ∧ ∀ x, (MemAct.ofEvent e).touch? = some x → ¬ Shun x.loc := by
  cases h with
  | read h =>
    rename_i a
    have hn : ¬ Shun (.cell a) := fun hs => hS _ a.block hs rfl h
    refine ⟨⟨fun x hx hs => ?_, by simp, by simp, Nat.lt_of_lt_of_le h.1 hA⟩, fun x hx => ?_⟩ <;> (simp [MemAct.ofEvent, MemAct.touch?] at hx; subst hx)
    · exact absurd hs hn
    · exact hn
  | write h h2 =>
    rename_i a
    have hn : ¬ Shun (.cell a) := fun hs => hS _ a.block hs rfl h
    refine ⟨⟨fun x hx hs => ?_, by simp, by simp, Nat.lt_of_lt_of_le h.1 hA⟩, fun x hx => ?_⟩ <;> (simp [MemAct.ofEvent, MemAct.touch?] at hx; subst hx)
    · exact absurd hs hn
    · exact hn
  | obj h h2 =>
    rename_i r wr
    have hn : ¬ Shun (.obj r) := fun hs => hS _ r hs rfl h
    have e : MemAct.ofEvent ⟨.obj r, wr, false⟩ = .access ⟨.obj r, wr, false⟩ := by cases wr <;> rfl
    refine ⟨⟨fun x hx hs => ?_, by simp, by simp, by rw [e]; exact Nat.lt_of_lt_of_le h.1 hA⟩, fun x hx => ?_⟩ <;> (rw [e] at hx; simp [MemAct.touch?] at hx; subst hx)
    · exact absurd hs hn
    · exact hn
  | room => exact ⟨⟨fun x hx => by simp [MemAct.ofEvent, MemAct.touch?] at hx, by simp, by simp, trivial⟩, fun x hx => by simp [MemAct.ofEvent, MemAct.touch?] at hx⟩
end Go.Dw.J
end
section
namespace Go.Dw.J
open Go.Dw Go.RowKit
open Go.Conc (G crowd Past Leavers EvL Deaf Deaf_other mem_ofEvents crowd_pick awake awake_of woken woken_quitsD woken_run runT_crowd_go runT_many_ended Deaf_own)
open Go.ConcN (sumTo upd sumTo_upd upd_ne upd_same)
set_option linter.unusedVariables false
set_option linter.unusedSimpArgs false
set_option linter.unusedSectionVars false
@[instance_reducible] def comp0 (OK : (Goroutine → World → Prop) → Prop) : Comp := { main := true, inv := fun _ _ => True, sp := fun _ _ _ _ _ => False, ok := OK }
section
variable {P : Program} {Post : Value → World → Prop}
theorem Keep.ext [KeepD] {A A1 w : World} (h : Keep A1 w) (he : Ext A A1) : Keep A w := ⟨h.1, fun b hb => (h.2 b hb).elim (fun ⟨h1, h2⟩ => by
    have h3 : Seen A b := by
      obtain ⟨h4, h5⟩ := h1
      rcases Nat.lt_or_ge b A.heap.size with h6 | h6
      · exact ⟨h6, by rw [← he.get h6]; exact h5⟩
      · exact absurd (he.new h6 h4) h5
    exact .inl ⟨h3, (he.get h3.1).symm.trans h2⟩) fun ⟨h1, h2⟩ => .inr ⟨fun h3 => h1 ⟨Nat.lt_of_lt_of_le h3.1 he.size, by rw [he.get h3.1]; exact h3.2⟩, h2⟩⟩
theorem turns_hid {A w A' w' : World} (h : Turns A w A' w') {Shun : Loc → Prop} (hS : ∀ l b, Shun l → inBlk b l → b < w.heap.size ∧ ¬ Seen A b) : ∀ l b, Shun l → inBlk b l → b < w'.heap.size ∧ ¬ Seen A' b := fun l b h1 h2 =>
  ⟨Nat.lt_of_lt_of_le (hS l b h1 h2).1 h.le, (h.hid b (hS l b h1 h2).1 (hS l b h1 h2).2).2⟩
theorem quiet_ofEvents {Shun : Loc → Prop} {t : Trace} {g : Nat} {fn : FuncId} {pos : String} {es : Array Event} (h : Go.Conc.Quiet Shun t) (hes : ∀ e ∈ es, ∀ x, (MemAct.ofEvent e).touch? = some x → ¬ Shun x.loc) : Go.Conc.Quiet Shun (t ++ MemOp.ofEvents g fn pos es) :=
  h.app fun op hop x hx hs => by
    obtain ⟨e, he, rfl⟩ := Go.Conc.mem_ofEvents hop
    exact absurd hs (hes e he x hx)
theorem mute_touch {e : Event} (h : e.mute = true) : (MemAct.ofEvent e).touch? = none := Go.Conc.touch_mute h
def Next0 (P : Program) (Post : Value → World → Prop) (gs : Array Goroutine) (w : World) (sl : Option (Nat × Nat)) (t : Trace) : Prop :=
  (∃ m ops, runT P (crowd gs w sl) 0 = (.next m, ops) ∧ Runs P Post m (t ++ ops)) ∨ (∃ o w' ops, runT P (crowd gs w sl) 0 = (.ended o w', ops) ∧ ∀ w0 sl0, Go.Conc.Good P Post (crowd gs w0 sl0) o w' (t ++ ops))
theorem runs_of_next0 {gs : Array Goroutine} {w w1 : World} {sl sl1 : Option (Nat × Nat)} {t : Trace} (hst : stepT P (crowd gs w sl) = runT P (crowd gs w1 sl1) 0) (h : Next0 P Post gs w1 sl1 t) : Runs P Post (crowd gs w sl) t := by
  rcases h with ⟨m, ops, h1, h2⟩ | ⟨o, w', ops, h1, h2⟩
  · exact Runs.step (hst.trans h1) h2
  · have hs := hst.trans h1
    exact ⟨0, _, o, w', t ++ ops, by simp [runNT, hs], rfl, by simp [step, hs], h2 w sl⟩
variable [KeepD]
theorem bes_step {g : Goroutine} {A : World} (hr : g.status = .running) (h : ∀ gs w sl t q Shun, BesInv P g A gs w t q Shun → Next0 P Post gs w sl t) : Bes P Post g A := by
  have key : ∀ (M : Nat) (gs : Array Goroutine) (w : World) (sl : Option (Nat × Nat)) (t : Trace) (q : Nat → Nat) (Shun : Loc → Prop), sumTo gs.size q ≤ M → BesInv P g A gs w t q Shun → Runs P Post (crowd gs w sl) t := by
    intro M
    induction M with
    | zero =>
      intro gs w sl t q Shun hM I
      have haw : ∀ x ∈ gs, awake x := by
        intro x hx
        obtain ⟨i, hi, rfl⟩ := Array.mem_iff_getElem.1 hx
        rcases Nat.eq_zero_or_pos i with rfl | hpos
        · have : gs[0] = g := by simpa [Array.getElem?_eq_getElem hi] using I.at0
          rw [this]; exact awake_of (.inl hr)
        · exact awake_of ((I.old.old i _ hpos (Array.getElem?_eq_getElem hi)).status.elim .inl fun x => .inr (.inr x))
      obtain ⟨i, x, d, sl', hi, hg, hst⟩ := crowd_pick (P := P) (w := w) (sl := sl) haw ⟨0, g, I.at0, hr⟩
      rcases Nat.eq_zero_or_pos i with rfl | hpos
      · exact runs_of_next0 hst (h gs (w.at d) sl' t q Shun ⟨I.at0, I.tape, I.gsz, sees_at I.sees d, I.old, I.past, I.quiet, I.hid, I.lies, I.keep⟩)
      · have hq := I.old.old i x hpos hi
        have hlt : i < gs.size := (Array.getElem?_eq_some_iff.1 hi).1
        have hle := Go.ConcN.le_sumTo (f := q) hlt
        have h0 : q i = 0 := by omega
        rw [h0] at hq
        rw [hq.1] at hg; cases hg
    | succ M ih =>
      intro gs w sl t q Shun hM I
      have haw : ∀ x ∈ gs, awake x := by
        intro x hx
        obtain ⟨i, hi, rfl⟩ := Array.mem_iff_getElem.1 hx
        rcases Nat.eq_zero_or_pos i with rfl | hpos
        · have : gs[0] = g := by simpa [Array.getElem?_eq_getElem hi] using I.at0
          rw [this]; exact awake_of (.inl hr)
        · exact awake_of ((I.old.old i _ hpos (Array.getElem?_eq_getElem hi)).status.elim .inl fun x => .inr (.inr x))
      obtain ⟨i, x, d, sl', hi, hg, hst⟩ := crowd_pick (P := P) (w := w) (sl := sl) haw ⟨0, g, I.at0, hr⟩
      rcases Nat.eq_zero_or_pos i with rfl | hpos
      · exact runs_of_next0 hst (h gs (w.at d) sl' t q Shun ⟨I.at0, I.tape, I.gsz, sees_at I.sees d, I.old, I.past, I.quiet, I.hid, I.lies, I.keep⟩)
      · have hq := I.old.old i x hpos hi
        have hi0 : (i == 0) = false := by simp; omega
        have hlt : i < gs.size := (Array.getElem?_eq_some_iff.1 hi).1
        cases hqi : q i with
        | zero => rw [hqi] at hq; rw [hq.1] at hg; cases hg
        | succ k =>
          rw [hqi] at hq
          rcases hq with ⟨hf, _⟩ | ⟨_, g', es, hm, hstp, hq'⟩
          · rw [hf] at hg; cases hg
          have hrunT := runT_crowd_go (P := P) (sl := sl') (i := i) hi (by rw [hi0]; exact hstp (w.at d))
          have hsz : ((gs.map (woken P x g' (w.at d))).setIfInBounds i g').size = gs.size := by simp
          have hsum : sumTo gs.size (upd q i k) + (k + 1) = sumTo gs.size q + k := by
            have := sumTo_upd q k id hlt
            simpa [hqi] using this
          refine Runs.step (hst.trans hrunT) (ih _ _ _ _ (upd q i k) Shun (by rw [hsz]; omega) ⟨?_, I.tape, gsz_ofEvents (by rw [hsz]; exact I.gsz) (by rw [hsz]; exact hlt), sees_at I.sees d, ⟨fun j y hj hy => ?_, fun j hj => ?_⟩, I.past.mute (by omega) hm, quiet_ofEvents I.quiet (fun e he x hx => by rw [mute_touch (hm e he)] at hx; cases hx), I.hid, I.lies, I.keep⟩)
          · have hne : i ≠ 0 := by omega
            rw [Array.getElem?_setIfInBounds_ne hne, Array.getElem?_map, I.at0]
            simp [woken_run hr]
          · by_cases hji : i = j
            · subst hji
              rw [Array.getElem?_setIfInBounds_self_of_lt (by simpa using hlt)] at hy
              obtain rfl := Option.some.inj hy
              rw [upd_same, Deaf_own]
              exact hq'
            · rw [Array.getElem?_setIfInBounds_ne hji, Array.getElem?_map] at hy
              obtain ⟨z, hz, rfl⟩ := Option.map_eq_some_iff.1 hy
              have hqj := I.old.old j z hj hz
              rw [woken_quitsD hqj, upd_ne q k (Ne.symm hji), Deaf_other t hji _ (fun op hop => by obtain ⟨e, _, rfl⟩ := Go.Conc.mem_ofEvents hop; rfl)]
              exact hqj
          · rw [Deaf_other t (g' := i) (by simp at hj; omega) _ (fun op hop => by obtain ⟨e, _, rfl⟩ := Go.Conc.mem_ofEvents hop; rfl)]
            exact I.old.above j (by simpa using hj)
  exact fun gs w sl t q Shun I => key _ gs w sl t q Shun (Nat.le_refl _) I
theorem bes_closed (OK : (Goroutine → World → Prop) → Prop) (hok : OK (Bes P Post)) : @Closed (comp0 OK) P (Bes P Post) := by
  letI := comp0 OK
  refine ⟨fun g A ⟨hr, h⟩ => bes_step hr fun gs w sl t q Shun I => ?_, fun g A A1 he ht hJ gs w sl t q Shun I => hJ gs w sl t q Shun ⟨I.at0, ht.symm.trans I.tape, I.gsz, I.sees.ext he, I.old, I.past, I.quiet, fun l b h1 h2 => ⟨(I.hid l b h1 h2).1, fun hs => (I.hid l b h1 h2).2 ⟨Nat.lt_of_lt_of_le hs.1 he.size, by rw [he.get hs.1]; exact hs.2⟩⟩, I.lies, I.keep.ext he⟩, hok⟩
  obtain ⟨g', A', w', es, h1, h2, h3, h4⟩ := h w I.sees trivial
  rcases h3 with ⟨hta, hT, hE⟩ | h3
  · have hrunT := runT_crowd_go (P := P) (sl := sl) (i := 0) I.at0 (show stepG P (0 == 0) g w = _ from h1)
    have hlt : 0 < gs.size := (Array.getElem?_eq_some_iff.1 I.at0).1
    have hid' := turns_hid hT I.hid
    have hev := fun e he => evOk_evL (hE e he) h2.size (Shun := Shun) fun l b x y => (hid' l b x y).2
    refine Or.inl ⟨_, _, hrunT, h4 _ _ _ _ q Shun ⟨by simp [hlt], hta.trans I.tape, gsz_ofEvents (by simpa using I.gsz) (by simpa using hlt), h2, ⟨fun j x hj hx => ?_, fun j hj => ?_⟩, (I.past.mono hT.le).own fun e he => (hev e he).1, quiet_ofEvents I.quiet fun e he => (hev e he).2, hid', I.lies, I.keep.turns hT⟩⟩
    · have hne : 0 ≠ j := by omega
      rw [Array.getElem?_setIfInBounds_ne hne, Array.getElem?_map] at hx
      obtain ⟨y, hy, rfl⟩ := Option.map_eq_some_iff.1 hx
      have hq := I.old.old j y hj hy
      rw [woken_quitsD hq, Deaf_other t (by omega) _ (fun op hop => by obtain ⟨e, _, rfl⟩ := Go.Conc.mem_ofEvents hop; rfl)]
      exact hq
    · rw [Deaf_other t (g' := 0) (by simp at hj; omega) _ (fun op hop => by obtain ⟨e, _, rfl⟩ := Go.Conc.mem_ofEvents hop; rfl)]
      exact I.old.above j (by simpa using hj)
  · exact h3.elim
theorem bes_end {g : Goroutine} {A : World} {v : Value} (hr : g.status = .running) (h : ∀ w, Sees A w → Keep A w → ∃ w' es, stepG P true g w = .ended (.done v) w' es ∧ (∀ e ∈ es, EvOk A e) ∧ Post v w') : Bes P Post g A :=
  bes_step hr fun gs w sl t q Shun I => by
    obtain ⟨w', es, h1, h2, h3⟩ := h w I.sees I.keep
    have hrunT := runT_many_ended (P := P) (sl := sl) (i := 0) I.at0 (show stepG P (0 == 0) g w = _ from h1)
    have hev := fun e he => evOk_evL (h2 e he) I.sees.size (Shun := Shun) fun l b x y => (I.hid l b x y).2
    have hP' := I.past.own (fn := g.frame.fn) (pos := g.frame.place) (es := es) fun e he => (hev e he).1
    refine Or.inr ⟨_, _, _, hrunT, fun w0 sl0 => ⟨v, rfl, h3, hP'.clean, hP'.over, ⟨fun x hx => ?_, rfl⟩, fun j x hx hj => ?_⟩⟩
    · obtain ⟨j, hj⟩ := List.mem_iff_getElem?.1 hx
      rw [List.getElem?_drop] at hj
      exact ⟨_, (I.old.old (1 + j) x (by omega) (by simpa [crowd] using hj)).leaves⟩
    · have hq := I.old.old j x (by omega) hx
      refine ⟨q j, ?_⟩
      have e : (t ++ MemOp.ofEvents 0 g.frame.fn g.frame.place es).deaf j (t ++ MemOp.ofEvents 0 g.frame.fn g.frame.place es).size = Deaf t j :=
        Deaf_other t (g := j) (g' := 0) (by omega) _ (fun op hop => by obtain ⟨e, _, rfl⟩ := Go.Conc.mem_ofEvents hop; rfl)
      rw [e]
      exact hq.hears _
end
end Go.Dw.J
end
section
namespace Go.Dw.J
open Go.Dw Go.RowKit
open Go.Conc (G crowd solo Past Leavers)
set_option linter.unusedVariables false
set_option linter.unusedSimpArgs false
set_option linter.unusedSectionVars false
def seeO : Obj → Obj
  | .view _ _ => pz
  | o => o
def seeAll (W : World) : World := { W with heap := W.heap.map seeO, tape := mkT [] }
theorem seeAll_get (W : World) (b : Nat) : (seeAll W).heap[b]? = (W.heap[b]?).map seeO := by simp [seeAll]
theorem seeAll_sees (W : World) : Sees (seeAll W) W := by
  refine ⟨rfl, rfl, by simp [seeAll], fun b hb => ?_, fun b at_ u e => ?_⟩
  · rw [seeAll_get]
    cases h : W.heap[b]? with
    | none => exact Or.inl rfl
    | some o => cases o <;> first | exact Or.inl rfl | exact Or.inr (Or.inl rfl)
  · rw [seeAll_get] at e
    cases h : W.heap[b]? with
    | none => rw [h] at e; cases e
    | some o => rw [h] at e; cases o <;> cases e
theorem seeAll_cells {W : World} {b : Nat} {c : Array Value} {T : TypeId} {fr : Nat × Nat} (h : W.heap[b]? = some (.cells c T fr)) : (seeAll W).heap[b]? = some (.cells c T fr) := by
  rw [seeAll_get, h]; rfl
theorem seeAll_cell {W : World} {a : Addr} {v : Value} (h : W.cell? a = some v) : (seeAll W).cell? a = some v := by
  obtain ⟨c, T, fr, h1, h2, h3⟩ := cell_obj h
  exact cell_of (seeAll_cells h1) h2 h3
section
variable [KeepD] {P : Program} {Post : Value → World → Prop}
theorem runs_start {g : Goroutine} {W : World} (hk : Keep (seeAll W) W) (h : Bes P Post g (seeAll W)) : Runs P Post (solo g W) #[] := by
  rw [Go.Conc.solo_eq_crowd]
  exact h #[g] W none #[] (fun _ => 0) (fun _ => False) ⟨rfl, rfl, by simp, seeAll_sees W, Go.Conc.leavers_one P g, Go.Conc.past_nil.mono (Nat.zero_le _), fun i op x hi => by simp at hi, fun l b h => h.elim, fun l h => h.elim, hk⟩
theorem bes_top (OK : (Goroutine → World → Prop) → Prop) (hok : OK (Bes P Post)) {k : FuncId} {fn : Func} {c : Code} {args : Array Value} {A : World} {R : Value → World → Prop} {n : Nat}
    (hf : P.funcs[k]? = some fn) (hb : fn.body = some c) (hn : fn.ntmps = n) (hs : Nat.ble args.size n = true) (hin : P.inits.idxOf? k = none) (hpost : ∀ v A' w, R v A' → Sees A' w → Keep A' w → Post v w)
    (h : @Wpf (comp0 OK) P n (endQ P fn R) c (f0 args) A) : Bes P Post (G (Frame.enter P k args .normal) []) A := by
  letI := comp0 OK
  have hJ : Closed P (Bes P Post) := bes_closed OK hok
  have hs' : args.size ≤ n := by simpa [Nat.ble_eq] using hs
  rw [Go.Conc.enter_at args hf hb, ← ato_at (b := Go.Conc.base k) rfl rfl]
  have leave : ∀ (a' : Act) (f' : Fr) (A' : World) (todo : List Item), FEq n a' f' → (∃ v, resV P fn f' A' v ∧ R v A') → Bes P Post (G { ato (Go.Conc.base k) a' todo with mode := .returning } []) A' := fun a' f' A' todo hf' ⟨v, hv, hR⟩ => by
    refine bes_end (v := v) rfl fun w hsee hkeep => ?_
    have hr := hv (runW A' w) (runW_ext A' w) _ hf'.at_
    have h1 := Sem.runT_fst P (results fn a'.tmps) (runW A' w) #[]
    rw [hr] at h1
    obtain ⟨w', k1, k2, k3, k4⟩ := frame (results fn a'.tmps) (q_results fn a'.tmps) hsee.hid (x := v) (A' := runW A' w) (es' := ((results fn a'.tmps).runT P (runW A' w) #[]).2) (Prod.ext h1 rfl)
    obtain ⟨e1, e2⟩ := sem_es k1
    refine ⟨w', seen P k ((results fn a'.tmps).runT P (runW A' w) #[]).2, ?_, fun e he => ?_, hpost v A' w' hR (Sees.ext k2.sees (runW_ext A' w)) ((hkeep.turns (turns_of hsee k3 k2)).ext (runW_ext A' w).norm)⟩
    · have hd : a'.defers = [] := hf'.defers
      have hd0 : (default : Frame).defers = [] := rfl
      simp [G, stepG, unwind, doReturn, ato, Go.Conc.base, hd, hd0, hf, e1, e2, GStep.after, hin]
    · have h5 := Go.Conc.mem_seen he
      obtain ⟨r, h6, h7⟩ := k4
      rw [h6] at h5
      have h8 := h7 e (by simpa using h5)
      cases h8 with
      | read h => exact .read ((seen_run _).1 h)
      | write h h2 => exact .write ((seen_run _).1 h) (fun x => h2 (ro_run x))
      | obj h h2 => exact .obj ((seen_run _).1 h) (fun x => h2 (ro_run x))
      | room => exact .room
  refine h (Bes P Post) hJ (Go.Conc.base k) (by simp [Go.Conc.base]) [] [] _ ⟨rfl, by simp [hn]; omega, fun i => ?_⟩ fun e a' f' A' hf' hQ => ?_
  · simp only [f0, lget_eq, Array.getD_eq_getD_getElem?, Array.getElem?_toList]
    by_cases hi : i < args.size
    · rw [Array.getElem?_append_left hi]
    · rw [Array.getElem?_append_right (by omega), Array.getElem?_eq_none (by omega : args.size ≤ i)]
      by_cases h2 : i - args.size < fn.ntmps - args.size
      · simp [h2]
      · rw [Array.getElem?_eq_none (by simp; omega)]
  · cases e with
    | normal => exact hJ.move rfl (fun w => stepG_end rfl) (leave a' f' A' _ hf' hQ)
    | ret => exact fun k2 => hJ.move rfl (fun w => stepG_ret rfl) (leave a' f' A' _ hf' hQ)
    | exit i => exact hQ.elim
    | goto l => exact hQ.elim
    | panic c => exact hQ.elim
    | outgrown => exact hQ.elim
end
end Go.Dw.J
end
section
namespace Go.Dw.J
open Go.Dw Go.RowKit
open Go.Conc (G)
set_option linter.unusedVariables false
set_option linter.unusedSimpArgs false
set_option linter.unusedSectionVars false
def RBlk (w : World) (b : Nat) (T : TypeId) (cs : Array Value) : Prop := ∃ fr, w.heap[b]? = some (.cells cs T fr)
section
variable {w w' : World} {b : Nat} {T : TypeId} {cs : Array Value}
theorem RBlk.lt (h : RBlk w b T cs) : b < w.heap.size := let ⟨_, e⟩ := h; (Array.getElem?_eq_some_iff.1 e).1
theorem RBlk.cell (h : RBlk w b T cs) {i : Nat} {v : Value} (hv : cs[i]? = some v) : w.cell? ⟨b, i, none⟩ = some v := let ⟨_, e⟩ := h; cell_of e rfl hv
theorem RBlk.range (h : RBlk w b T cs) {o : Nat} {vs : List Value} (hv : ∀ j v, vs[j]? = some v → cs[o + j]? = some v) : w.rangeAt b o vs := fun j v hj => h.cell (hv j v hj)
theorem RBlk.grown (h : RBlk w b T cs) {r : Option Nat} (hg : w.grownBy w' r) (hne : some b ≠ r) : RBlk w' b T cs := let ⟨fr, e⟩ := h; ⟨fr, (hg.block b h.lt hne).trans e⟩
theorem RBlk.grown0 (h : RBlk w b T cs) (hg : w.grownBy w' none) : RBlk w' b T cs := h.grown hg (by simp)
theorem RBlk.rangeL (h : RBlk w b T cs) (o k : Nat) {vs : List Value} (e : (cs.toList.drop o).take k = vs) : w.rangeAt b o vs :=
  h.range fun j v hj => by
    rw [← e, List.getElem?_take] at hj
    split at hj
    · rw [List.getElem?_drop] at hj; simpa using hj
    · cases hj
end
def g0 (A : World) : Nat := A.tape 0 .zeroSizeEq
def putRow (cs : Array Value) (sz k : Nat) (vs : List Value) : Array Value := (cs.toList.take (k * sz) ++ vs ++ cs.toList.drop (k * sz + sz)).toArray
def blind (A : World) : World := { A with heap := Array.replicate A.heap.size pz, tape := mkT [1] }
theorem blind_sees {A w w' : World} (h : Sees A w) (ho : w'.os = w.os) (hp : w'.output = w.output) (hs : w.heap.size ≤ w'.heap.size) : Sees (blind A) w' := by
  refine ⟨h.os.trans ho.symm, h.output.trans hp.symm, ?_, fun b hb => Or.inr (Or.inl ?_), fun b at_ u e => ?_⟩
  · simpa [blind] using Nat.le_trans h.size hs
  · have : b < A.heap.size := by simpa [blind] using hb
    simp [blind, this]
  · by_cases hb : b < A.heap.size
    · simp [blind, hb, pz] at e
    · simp [blind, hb] at e
theorem blind_seen {A : World} {b : Nat} : ¬ Seen (blind A) b := by
  rintro ⟨h1, h2⟩
  have : b < A.heap.size := by simpa [blind] using h1
  exact h2 (by simp [blind, this])
def hideB (A : World) (b : Nat) : World := { A with heap := A.heap.setIfInBounds b pz }
theorem hideB_get {A : World} {b c : Nat} (h : c ≠ b) : (hideB A b).heap[c]? = A.heap[c]? := by simp [hideB, Array.getElem?_setIfInBounds_ne (Ne.symm h)]
theorem hideB_sees {A w : World} (h : Sees A w) (b : Nat) : Sees (hideB A b) w := by
  refine ⟨h.os, h.output, by simpa [hideB] using h.size, fun c hc => ?_, fun c at_ u e => ?_⟩
  · by_cases e : c = b
    · subst e
      exact Or.inr (Or.inl (by simp [hideB] at hc; simp [hideB, hc]))
    · rw [hideB_get e]; exact h.vis c (by simpa [hideB] using hc)
  · by_cases e2 : c = b
    · subst e2
      by_cases hc : c < A.heap.size
      · simp [hideB, hc, pz] at e
      · simp [hideB, hc] at e
    · rw [hideB_get e2] at e; exact h.nv _ _ _ e
theorem hideB_seen {A : World} {b c : Nat} (h : Seen (hideB A b) c) : Seen A c ∧ c ≠ b := by
  obtain ⟨h1, h2⟩ := h
  have h3 : c < A.heap.size := by simpa [hideB] using h1
  by_cases e : c = b
  · subst e; exact absurd (by simp [hideB, h3]) h2
  · rw [hideB_get e] at h2; exact ⟨⟨h3, h2⟩, e⟩
structure RowStep (C n sz k : Nat) (TT : TypeId) (Out : List Value → World → Prop) (bx : Nat) (val : Value) (ety : TypeId) (A w A' w' : World) (es : Array Event) : Prop where
  g0 : g0 A = 0
  new : A' = blind A
  box : A.heap[bx]? = some (.cells #[val] ety (0, 0))
  row : ∃ cs vs, w.heap[C]? = some (.cells cs TT (0, 0)) ∧ cs.size = n * sz ∧ vs.length = sz ∧ Out vs (hideB A bx) ∧ w' = w.setRow C (putRow cs sz k vs)
  evs : ∀ e ∈ es, ∃ j, j < sz ∧ e = ⟨.cell ⟨C, k * sz + j, none⟩, true, false⟩
@[instance_reducible] def compW (C n sz k : Nat) (TT : TypeId) (Out : List Value → World → Prop) (bx : Nat) (val : Value) (ety : TypeId) : Comp where
  main := false
  inv A w := g0 A = 0 → n ≠ 0 → ∃ cs, w.heap[C]? = some (.cells cs TT (0, 0)) ∧ cs.size = n * sz
  sp := RowStep C n sz k TT Out bx val ety
  ok _ := True
theorem row_events {P : Program} {C o : Nat} {T : TypeId} : ∀ (vs : List Value) (i : Nat) (cur : Array Value) (w : World) (es : Array Event), w.heap[C]? = some (.cells cur T (0, 0)) → o + i + vs.length ≤ cur.size → (∀ v ∈ vs, v.oneCell' = true) →
    ∀ e ∈ (storeCells ⟨C, o, none⟩ vs i).events P w es, e ∈ es ∨ ∃ j, j < i + vs.length ∧ e = ⟨.cell ⟨C, o + j, none⟩, true, false⟩
  | [], i, cur, w, es, _, _, _, e, he => Or.inl (by simpa [storeCells] using he)
  | v :: vs, i, cur, w, es, hb, hl, h1, e, he => by
    have hlt : o + i < cur.size := by simp at hl; omega
    have hB : Blk w C T cur := hb
    have hc := hB.cell (i := o + i) (v := cur[o + i]) (by simp [hlt])
    have ha : (⟨C, o, none⟩ : Addr).add i = ⟨C, o + i, none⟩ := Addr.add_mid _ _ _
    have hr : (store ((⟨C, o, none⟩ : Addr).add i) v).run P w = .ok () (w.setRow C (cur.setIfInBounds (o + i) v)) := by
      rw [ha, run_store P w _ v _ (h1 v (by simp)), hc]
      simp [hB.froz (o + i), setCell_eq_setRow w C (o + i) cur T (0, 0) v hb]
    have hev : (store ((⟨C, o, none⟩ : Addr).add i) v).events P w es = es.push ⟨.cell ⟨C, o + i, none⟩, true, false⟩ := by
      rw [ha, Go.events_store P w es _ v _ (h1 v (by simp)), hc]
      simp only [hB.froz (o + i), Bool.false_eq_true, if_false]
      rfl
    unfold storeCells at he
    simp only [Sem.events_bind, hr, Result.evThen_ok, hev] at he
    rcases row_events vs (i + 1) _ _ _ (setB_setRow hB (cur.setIfInBounds (o + i) v)).blk (by simp at hl ⊢; omega) (fun u hu => h1 u (by simp [hu])) e he with h | ⟨j, hj, h⟩
    · rcases Array.mem_push.1 h with h | h
      · exact Or.inl h
      · exact Or.inr ⟨i, by simp, h⟩
    · exact Or.inr ⟨j, by simp; omega, h⟩
theorem rowstore_events {P : Program} {t k C o : Nat} {T : TypeId} {cs : Array Value} {vs : List Value} {w : World} (h : rowTy P t = some k) (hl : vs.length = k) (h1 : ∀ v ∈ vs, v.oneCell' = true) (hb : w.heap[C]? = some (.cells cs T (0, 0))) (ho : o + k ≤ cs.size) {e : Event}
    (he : e ∈ (Instr.storeAt t (.pointer (some ⟨C, o, none⟩)) (.agg vs.toArray)).events P w #[]) : ∃ j, j < k ∧ e = ⟨.cell ⟨C, o + j, none⟩, true, false⟩ := by
  obtain ⟨d, _, _, hs⟩ := rowTy_spec h
  cases hq : P.info? t with
  | none => simp [hq] at hs
  | some i =>
    have hi : i.size = k := by simpa [hq] using hs
    have e2 : (Instr.storeAt t (.pointer (some ⟨C, o, none⟩)) (.agg vs.toArray)).events P w #[] = (storeCells ⟨C, o, none⟩ vs 0).events P w #[] := by
      simp [Instr.storeAt, Instr.sureAddr, storeVar, sizeOf, typeInfo, hq, hi, Value.cells, hl]
    rw [e2] at he
    rcases row_events vs 0 cs w #[] hb (by omega) h1 e he with h | ⟨j, hj, h⟩
    · simp at h
    · exact ⟨j, by omega, h⟩
section
variable {P : Program} {C n sz k : Nat} {TT : TypeId} {Out : List Value → World → Prop} {bx : Nat} {val : Value} {ety : TypeId}
theorem wpo_row {nn : Nat} {ops : Array Oper} {K : Fr → World → Prop} {l : List Oper} {f : Fr} {w : World} {ty : TypeId} {pos : String} {aft : Array Edge} {t : TypeId} {x y : Operand} {vs : List Value} (ht : rowTy P t = some sz) (hx : ev f x = .pointer (some ⟨C, k * sz, none⟩)) (hy : ev f y = .agg vs.toArray) (hl : vs.length = sz)
    (h1 : ∀ v ∈ vs, v.oneCell' = true) (hk : k < n) (hg : g0 w = 0) (hbx : w.heap[bx]? = some (.cells #[val] ety (0, 0))) (hO : Out vs (hideB w bx)) (h : @WpO (compW C n sz k TT Out bx val ety) P nn ops K l f (blind w)) : @WpO (compW C n sz k TT Out bx val ety) P nn ops K (⟨none, .store t x y, ty, pos, aft, none⟩ :: l) f w := by
  letI := compW C n sz k TT Out bx val ety
  intro a ha
  refine Or.inl ⟨by simp [Region.wanted], Or.inr ⟨fun v A' => A' = blind w, ?_, fun v A' hR => ⟨f, ha, by rw [hR]; exact h⟩⟩⟩
  intro J hJ b hb i rest kk cs a2 o' ho hd hw hs hk'
  refine hJ.step _ _ ⟨rfl, fun w1 hsee hinv => ?_⟩
  obtain ⟨cur, hC, hsz⟩ := hinv hg (by omega)
  have hB : Blk w1 C TT cur := hC
  have hle : k * sz + sz ≤ cur.size := by
    rw [hsz]
    have : (k + 1) * sz ≤ n * sz := Nat.mul_le_mul_right _ hk
    rwa [Nat.add_mul, Nat.one_mul] at this
  have he : execOp a.eval ⟨none, .store t x y, ty, pos, aft, none⟩ = (do Instr.storeAt t (.pointer (some ⟨C, k * sz, none⟩)) (.agg vs.toArray); pure .skip : Sem Next) := by
    rw [ha.eval]
    show (do Instr.storeAt t (ev f x) (ev f y); pure .skip : Sem Next) = _
    rw [hx, hy]
  have hr : (execOp a2.eval o').run P w1 = .ok .skip (w1.setRow C (putRow cur sz k vs)) := by
    rw [hs, he, Sem.run_bind, run_storen ht hl h1 hB hle]
    rfl
  refine ⟨_, blind w, w1.setRow C (putRow cur sz k vs), _, stepG_none ho hw hb hr, blind_sees hsee rfl rfl (Nat.le_of_eq (size_setRow _ _ _).symm), Or.inr ⟨hg, rfl, hbx, ⟨cur, vs, hC, hsz, hl, hO, rfl⟩, fun e hev => ?_⟩, ?_⟩
  · have h5 := Go.Conc.mem_seen hev
    rw [hs, he] at h5
    refine rowstore_events ht hl h1 hC hle (e := e) ?_
    rw [Sem.events_bind, run_storen ht hl h1 hB hle] at h5
    exact h5
  · rw [hd]; exact hk' undef _ rfl
end
end Go.Dw.J
end
section
namespace Go.Dw.J
open Go.Dw Go.RowKit
open Go.Conc (G)
set_option linter.unusedVariables false
set_option linter.unusedSimpArgs false
set_option linter.unusedSectionVars false
section
variable {α : Type} (r : α → α → Prop)
def FamR (N : Nat) (F' F : Nat → α) : Prop := ∃ i, i < N ∧ r (F' i) (F i) ∧ ∀ j, j ≠ i → F' j = F j
theorem famR_acc (hr : ∀ x, Acc r x) : ∀ (N : Nat) (F : Nat → α), Acc (FamR r N) F
  | 0, F => ⟨_, fun _ ⟨i, h, _⟩ => by omega⟩
  | N + 1, F => by
    have key : ∀ t, Acc r t → ∀ F : Nat → α, F N = t → Acc (FamR r (N + 1)) F := by
      intro t ht
      induction ht with
      | intro t _ ih =>
        intro F hF
        have inner : ∀ F, Acc (FamR r N) F → F N = t → Acc (FamR r (N + 1)) F := by
          intro F hF
          induction hF with
          | intro F _ ih2 =>
            intro hN
            refine ⟨_, fun F' ⟨i, hi, hk, ho⟩ => ?_⟩
            rcases Nat.lt_or_ge i N with h | h
            · exact ih2 F' ⟨i, h, hk, ho⟩ ((ho N (by omega)).trans hN)
            · have : i = N := by omega
              subst this
              exact ih (F' i) (hN ▸ hk) F' rfl
        exact inner F (famR_acc hr N F) hF
    exact key (F N) (hr _) F rfl
end
abbrev Sz := Nat × Tree
def Lo : Sz → Sz → Prop := Prod.Lex (· < ·) Tree.Kid
theorem lo_acc : ∀ x, Acc Lo x := (Prod.lex ⟨_, Nat.lt_wfRel.wf⟩ ⟨Tree.Kid, ⟨tree_acc⟩⟩).wf.apply
theorem Lo.stage {s s' : Nat} {t t' : Tree} (h : s' < s) : Lo (s', t') (s, t) := Prod.Lex.left _ _ h
theorem Lo.kid {s : Nat} {t t' : Tree} (h : Tree.Kid t' t) : Lo (s, t') (s, t) := Prod.Lex.right _ h
section
variable {A B w A' w' : World} {N0 : Nat}
theorem Sees.still (h : Sees B w) (ho : w'.os = w.os) (hp : w'.output = w.output) (hs : w.heap.size ≤ w'.heap.size) (hb : ∀ b, Seen B b → w'.heap[b]? = w.heap[b]?) : Sees B w' := by
  refine ⟨h.os.trans ho.symm, h.output.trans hp.symm, Nat.le_trans h.size hs, fun b hlt => ?_, h.nv⟩
  by_cases hse : B.heap[b]? = some pz
  · exact Or.inr (Or.inl hse)
  · rw [hb b ⟨hlt, hse⟩]; exact h.vis b hlt
def Rds (N0 : Nat) (A : World) : Prop := ∀ b, b < N0 → Ro A b ∨ ¬ Seen A b
theorem Rds.turns (h : Rds N0 A) (hN : N0 ≤ w.heap.size) (hT : Turns A w A' w') : Rds N0 A' := fun b hb => by
  rcases h b hb with hr | hn
  · obtain ⟨c, T, e, h2⟩ := hr
    exact Or.inl ⟨c, T, ((hT.read b ⟨c, T, e, h2⟩).2).trans e, h2⟩
  · exact Or.inr (hT.hid b (Nat.lt_of_lt_of_le hb hN) hn).2
theorem Rds.still (h : Rds N0 A) (hT : Turns A w A' w') (hN : N0 ≤ w.heap.size) {b : Nat} (hb : b < N0) : w'.heap[b]? = w.heap[b]? := by
  rcases h b hb with hr | hn
  · exact (hT.read b hr).1
  · exact (hT.hid b (Nat.lt_of_lt_of_le hb hN) hn).1
theorem Sees.other (hB : Sees B w) (hT : Turns A w A' w') (hlo : Rds N0 A) (hN : N0 ≤ w.heap.size) (hap : ∀ b, N0 ≤ b → Seen B b → ¬ Seen A b) : Sees B w' :=
  hB.still hT.os hT.output hT.le fun b hse => by
    rcases Nat.lt_or_ge b N0 with h | h
    · exact hlo.still hT hN h
    · exact (hT.hid b (Nat.lt_of_lt_of_le hse.1 hB.size) (hap b h hse)).1
theorem Turns.grow (hT : Turns A w A' w') {b : Nat} (h : Seen A' b) : Seen A b ∨ w.heap.size ≤ b := by
  rcases Nat.lt_or_ge b w.heap.size with h1 | h1
  · exact Or.inl (Classical.byContradiction fun hn => (hT.hid b h1 hn).2 h)
  · exact Or.inr h1
theorem Seen.ext {A A1 : World} (he : Ext A A1) {b : Nat} : Seen A1 b ↔ Seen A b := by
  constructor
  · rintro ⟨h1, h2⟩
    rcases Nat.lt_or_ge b A.heap.size with h3 | h3
    · exact ⟨h3, by rw [← he.get h3]; exact h2⟩
    · exact absurd (he.new h3 h1) h2
  · rintro ⟨h1, h2⟩
    exact ⟨Nat.lt_of_lt_of_le h1 he.size, by rw [he.get h1]; exact h2⟩
theorem Ro.ext {A A1 : World} (he : Ext A A1) {b : Nat} : Ro A b → Ro A1 b := fun h => let ⟨c, T, e, h2⟩ := h; ⟨c, T, by rw [he.get (ro_lt h)]; exact e, h2⟩
theorem Ro.ext' {A A1 : World} (he : Ext A A1) {b : Nat} (h : Ro A1 b) : Ro A b := by
  have hs := (Seen.ext he).1 (ro_seen h)
  obtain ⟨c, T, e, h2⟩ := h
  exact ⟨c, T, by rw [← he.get hs.1]; exact e, h2⟩
theorem Rds.ext {A1 : World} (he : Ext A A1) (h : Rds N0 A) : Rds N0 A1 := fun b hb => (h b hb).imp (Ro.ext he) fun hn hs => hn ((Seen.ext he).1 hs)
theorem Rds.ext' {A1 : World} (he : Ext A A1) (h : Rds N0 A1) : Rds N0 A := fun b hb => (h b hb).imp (Ro.ext' he) fun hn hs => hn ((Seen.ext he).2 hs)
end
end Go.Dw.J
end
section
namespace Go.CJ
open Go.Conc Go.ConcN
set_option linter.unusedVariables false
set_option linter.unusedSimpArgs false
set_option linter.unusedSectionVars false
structure Apart (s0 : Nat) (Sh : Loc → Prop) (Own Rd : Nat → Loc → Prop) : Prop where
  own : ∀ k k' l, s0 ≤ k → s0 ≤ k' → Own k l → Own k' l → k = k'
  ownRd : ∀ k k' l, s0 ≤ k → s0 ≤ k' → Own k l → ¬ Rd k' l
  ownSh : ∀ k l, s0 ≤ k → Own k l → ¬ Sh l
  rdSh : ∀ k l, s0 ≤ k → Rd k l → ¬ Sh l
structure CJ (s0 : Nat) (Sh : Loc → Prop) (Own Rd : Nat → Loc → Prop) (a : Addr) (t : Trace) (N : Nat) : Prop where
  quiet : Quiet Sh t
  own : ∀ k, s0 ≤ k → k < N → ∀ l, l.isMemory = true → Own k l → Perm t k l
  rd : ∀ k, s0 ≤ k → k < N → ∀ l, l.isMemory = true → Rd k l → PermW t k l
  free : ∀ l, l.isMemory = true → ¬ Sh l → (∀ k, s0 ≤ k → k < N → ¬ Own k l ∧ ¬ Rd k l) → Perm t 0 l
  mine : ∀ l, l.isMemory = true → ¬ Sh l → (∀ k, s0 ≤ k → k < N → ¬ Own k l) → PermW t 0 l
  nr : ∀ said, ¬ Race said t
  gs : ∀ op ∈ t, op.g < N
  old : ∀ (i : Nat) (x : Touch) (g : Nat), touchAt t i = some x → x.loc.isMemory = true → t.g? i = some g → g < s0 → Knows t 0 i ∨ (Sh x.loc ∧ x.kind = .atomic)
  new : ∀ (i : Nat) (x : Touch) (g : Nat), touchAt t i = some x → t.g? i = some g → s0 ≤ g → x.kind = .atomic → Sh x.loc
  over : ∀ i g, t.g? i = some g → g ≠ 0 → g < s0 → t.counts i → ∃ j, t.g? j = some 0 ∧ HappensBefore t i j
  norel : NoRelease a t
def Ok0 (s0 : Nat) (Sh : Loc → Prop) (Own Rd : Nat → Loc → Prop) (N : Nat) (op : MemOp) : Prop :=
  op.g = 0 ∧ ∀ x, op.act.touch? = some x → (Sh x.loc ∧ x.kind ≠ .plain) ∨ (¬ Sh x.loc ∧ (∀ k, s0 ≤ k → k < N → ¬ Own k x.loc) ∧ (x.write = true → ∀ k, s0 ≤ k → k < N → ¬ Rd k x.loc))
def OkW (Sh : Loc → Prop) (Own Rd : Nat → Loc → Prop) (k : Nat) (op : MemOp) : Prop :=
  op.g = k ∧ ∀ x, op.act.touch? = some x → (Sh x.loc ∧ x.kind ≠ .plain ∧ x.kind ≠ .said) ∨ (Own k x.loc ∧ x.kind ≠ .atomic) ∨ (Rd k x.loc ∧ x.write = false ∧ x.kind ≠ .atomic)
section
variable {s0 N : Nat} {Sh : Loc → Prop} {Own Rd : Nat → Loc → Prop} {a : Addr} {t u : Trace}
theorem old_app (h : CJ s0 Sh Own Rd a t N) (hu : ∀ op ∈ u, ∀ x, op.act.touch? = some x → op.g = 0 ∨ s0 ≤ op.g) : ∀ (i : Nat) (x : Touch) (g : Nat), touchAt (t ++ u) i = some x → x.loc.isMemory = true → (t ++ u).g? i = some g → g < s0 → Knows (t ++ u) 0 i ∨ (Sh x.loc ∧ x.kind = .atomic) := by
  intro i x g hx hm hg hs
  obtain ⟨op, ho, hox⟩ := touch_of hx
  rcases getElem?_append_cases ho with ⟨hlt, ho'⟩ | ⟨hge, hou⟩
  · exact (h.old i x g (by rw [touchAt_of ho']; exact hox) hm (by unfold Trace.g? at hg ⊢; rw [ho] at hg; rw [ho']; exact hg) hs).imp (·.app u) id
  · have e : op.g = g := by unfold Trace.g? at hg; rw [ho] at hg; simpa using hg
    rcases hu op hou x hox with h0 | h0
    · have := knows_own ho
      rw [h0] at this
      exact Or.inl this
    · omega
theorem new_app (h : CJ s0 Sh Own Rd a t N) (hu : ∀ op ∈ u, s0 ≤ op.g → ∀ x, op.act.touch? = some x → x.kind = .atomic → Sh x.loc) : ∀ (i : Nat) (x : Touch) (g : Nat), touchAt (t ++ u) i = some x → (t ++ u).g? i = some g → s0 ≤ g → x.kind = .atomic → Sh x.loc := by
  intro i x g hx hg hs hk
  obtain ⟨op, ho, hox⟩ := touch_of hx
  rcases getElem?_append_cases ho with ⟨hlt, ho'⟩ | ⟨hge, hou⟩
  · exact h.new i x g (by rw [touchAt_of ho']; exact hox) (by unfold Trace.g? at hg ⊢; rw [ho] at hg; rw [ho']; exact hg) hs hk
  · have e : op.g = g := by unfold Trace.g? at hg; rw [ho] at hg; simpa using hg
    exact hu op hou (by omega) x hox hk
theorem over_app (h : CJ s0 Sh Own Rd a t N) (hu : ∀ op ∈ u, ∀ x, op.act.touch? = some x → op.g = 0 ∨ s0 ≤ op.g) : ∀ i g, (t ++ u).g? i = some g → g ≠ 0 → g < s0 → (t ++ u).counts i → ∃ j, (t ++ u).g? j = some 0 ∧ HappensBefore (t ++ u) i j := by
  intro i g hg hne hs hc
  obtain ⟨x, hx, hc'⟩ := hc
  obtain ⟨op, hop, hox⟩ := touch_of hx
  rcases getElem?_append_cases hop with ⟨hi, hop'⟩ | ⟨_, hopu⟩
  · obtain ⟨j, hj, hb⟩ := h.over i g (by simpa [Trace.g?, getElem?_append_old hi] using hg) hne hs ((counts_old hi).1 ⟨x, hx, hc'⟩)
    have hjl : j < t.size := by
      unfold Trace.g? at hj
      obtain ⟨z, hz, _⟩ := Option.map_eq_some_iff.1 hj
      exact lt_size_of_getElem? hz
    exact ⟨j, by simpa [Trace.g?, getElem?_append_old hjl] using hj, hb_app u hb⟩
  · have e : op.g = g := by unfold Trace.g? at hg; rw [hop] at hg; simpa using hg
    rcases hu op hopu x hox with h0 | h0 <;> omega
theorem norel_app (h : NoRelease a t) (hu : ∀ op ∈ u, op.act ≠ .mark (.release a)) : NoRelease a (t ++ u) := by
  intro i e
  unfold Trace.act? at e
  obtain ⟨op, ho, ha⟩ := Option.map_eq_some_iff.1 e
  rcases getElem?_append_cases ho with ⟨_, ho'⟩ | ⟨_, hou⟩
  · exact h i (by unfold Trace.act?; rw [ho']; simp [ha])
  · exact hu op hou ha
theorem CJ.app0 (A : Apart s0 Sh Own Rd) (hs : 1 ≤ s0) (hN : s0 ≤ N) (h : CJ s0 Sh Own Rd a t N) (hu : ∀ op ∈ u, Ok0 s0 Sh Own Rd N op) (hr : ∀ op ∈ u, op.act ≠ .mark (.release a)) : CJ s0 Sh Own Rd a (t ++ u) N := by
  refine ⟨h.quiet.app fun op hop x hx hs => ?_, fun k k1 kj l hm hl => (h.own k k1 kj l hm hl).app fun op hop b hb e => ?_, fun k k1 kj l hm hl => (h.rd k k1 kj l hm hl).app fun op hop b hb e hw => ?_,
    fun l hm hs hl => (h.free l hm hs hl).app fun op hop _ _ _ => (hu op hop).1, fun l hm hs hl => (h.mine l hm hs hl).app fun op hop _ _ _ _ => (hu op hop).1, fun said => ?_, fun op hop => ?_,
    old_app h fun op hop _ _ => Or.inl (hu op hop).1, new_app h fun op hop hs' => by have := (hu op hop).1; omega, over_app h fun op hop _ _ => Or.inl (hu op hop).1, norel_app h.norel hr⟩
  · rcases (hu op hop).2 x hx with ⟨_, hk⟩ | ⟨hn, _⟩
    · exact ⟨hk, fun _ => (hu op hop).1⟩
    · exact absurd hs hn
  · rcases (hu op hop).2 b hb with ⟨hs, _⟩ | ⟨_, hn, _⟩
    · exact absurd (e ▸ hs) (A.ownSh k l k1 hl)
    · exact absurd (e ▸ hl) (hn k k1 kj)
  · rcases (hu op hop).2 b hb with ⟨hs, _⟩ | ⟨_, _, hn⟩
    · exact absurd (e ▸ hs) (A.rdSh k l k1 hl)
    · exact absurd (e ▸ hl) (hn hw k k1 kj)
  · refine noRace_append (h.nr said) (fun op hop => (hu op hop).1) (fun i x ha op hop b hb hc => ?_)
    rcases (hu op hop).2 b hb with ⟨hs, hk⟩ | ⟨hs, hno, hnr⟩
    · exact h.quiet.known hs hk (fun _ => rfl) i x ha hc
    · have hm : b.loc.isMemory = true := by rw [← hc.1]; exact hc.2.1
      cases hbw : b.write with
      | true => exact h.free b.loc hm hs (fun k k1 kj => ⟨hno k k1 kj, hnr hbw k k1 kj⟩) i x ha hc.1
      | false => exact h.mine b.loc hm hs hno i x ha hc.1 (hc.2.2.1.resolve_right (by simp [hbw]))
  · rcases Array.mem_append.1 hop with h1 | h1
    · exact h.gs op h1
    · rw [(hu op h1).1]; omega
theorem CJ.appW (A : Apart s0 Sh Own Rd) (h : CJ s0 Sh Own Rd a t N) {k : Nat} (k1 : s0 ≤ k) (kj : k < N) (hu : ∀ op ∈ u, OkW Sh Own Rd k op) (hr : ∀ op ∈ u, op.act ≠ .mark (.release a)) : CJ s0 Sh Own Rd a (t ++ u) N := by
  refine ⟨h.quiet.app fun op hop x hx hs => ?_, fun k' k1' kj' l hm hl => (h.own k' k1' kj' l hm hl).app fun op hop b hb e => ?_, fun k' k1' kj' l hm hl => (h.rd k' k1' kj' l hm hl).app fun op hop b hb e hw => ?_,
    fun l hm hs hl => (h.free l hm hs hl).app fun op hop b hb e => ?_, fun l hm hs hl => (h.mine l hm hs hl).app fun op hop b hb e hw => ?_, fun said => ?_, fun op hop => ?_,
    old_app h fun op hop _ _ => Or.inr (by rw [(hu op hop).1]; exact k1), new_app h fun op hop _ x hx hk => ?_, over_app h fun op hop _ _ => Or.inr (by rw [(hu op hop).1]; exact k1), norel_app h.norel hr⟩
  · rcases (hu op hop).2 x hx with ⟨_, hk, hn⟩ | ⟨ho, _⟩ | ⟨hr, _⟩
    · exact ⟨hk, fun e => absurd e hn⟩
    · exact absurd hs (A.ownSh k _ k1 ho)
    · exact absurd hs (A.rdSh k _ k1 hr)
  · rcases (hu op hop).2 b hb with ⟨hs, _⟩ | ⟨ho, _⟩ | ⟨hr, _⟩
    · exact absurd (e ▸ hs) (A.ownSh k' l k1' hl)
    · rw [(hu op hop).1]; exact A.own k k' l k1 k1' (e ▸ ho) hl
    · exact absurd (e ▸ hr) (A.ownRd k' k l k1' k1 hl)
  · rcases (hu op hop).2 b hb with ⟨hs, _⟩ | ⟨ho, _⟩ | ⟨_, hr, _⟩
    · exact absurd (e ▸ hs) (A.rdSh k' l k1' hl)
    · exact absurd hl (A.ownRd k k' l k1 k1' (e ▸ ho))
    · rw [hr] at hw; cases hw
  · rcases (hu op hop).2 b hb with ⟨hs', _⟩ | ⟨ho, _⟩ | ⟨hr, _⟩
    · exact absurd (e ▸ hs') hs
    · exact absurd (e ▸ ho) (hl k k1 kj).1
    · exact absurd (e ▸ hr) (hl k k1 kj).2
  · rcases (hu op hop).2 b hb with ⟨hs', _⟩ | ⟨ho, _⟩ | ⟨_, hr, _⟩
    · exact absurd (e ▸ hs') hs
    · exact absurd (e ▸ ho) (hl k k1 kj)
    · rw [hr] at hw; cases hw
  · refine noRace_append (h.nr said) (fun op hop => (hu op hop).1) (fun i x ha op hop b hb hc => ?_)
    have hm : b.loc.isMemory = true := by rw [← hc.1]; exact hc.2.1
    rcases (hu op hop).2 b hb with ⟨hs, hk, hn⟩ | ⟨ho, _⟩ | ⟨hr, hbw, _⟩
    · exact h.quiet.known hs hk (fun e => absurd e hn) i x ha hc
    · exact h.own k k1 kj b.loc hm ho i x ha hc.1
    · exact h.rd k k1 kj b.loc hm hr i x ha hc.1 (hc.2.2.1.resolve_right (by simp [hbw]))
  · rcases Array.mem_append.1 hop with h1 | h1
    · exact h.gs op h1
    · rw [(hu op h1).1]; exact kj
  · rcases (hu op hop).2 x hx with ⟨hs, _⟩ | ⟨_, hn⟩ | ⟨_, _, hn⟩
    · exact hs
    · exact absurd hk hn
    · exact absurd hk hn
theorem CJ.appMute (h : CJ s0 Sh Own Rd a t N) {k : Nat} (hk : k < N) (hu : ∀ op ∈ u, op.g = k) (hn : ∀ op ∈ u, op.act.touch? = none) (hr : ∀ op ∈ u, op.act ≠ .mark (.release a)) : CJ s0 Sh Own Rd a (t ++ u) N := by
  have no : ∀ op ∈ u, ∀ b, op.act.touch? = some b → False := fun op hop b hb => by rw [hn op hop] at hb; cases hb
  exact ⟨h.quiet.app fun op hop x hx _ => (no op hop x hx).elim, fun k' k1' kj' l hm hl => (h.own k' k1' kj' l hm hl).app fun op hop b hb e => (no op hop b hb).elim, fun k' k1' kj' l hm hl => (h.rd k' k1' kj' l hm hl).app fun op hop b hb e hw => (no op hop b hb).elim,
    fun l hm hs hl => (h.free l hm hs hl).app fun op hop b hb e => (no op hop b hb).elim, fun l hm hs hl => (h.mine l hm hs hl).app fun op hop b hb e hw => (no op hop b hb).elim, fun said => noRace_append (h.nr said) hu fun i x ha op hop b hb hc => (no op hop b hb).elim, fun op hop => (Array.mem_append.1 hop).elim (h.gs op) fun h1 => by rw [hu op h1]; exact hk,
    old_app h fun op hop b hb => (no op hop b hb).elim, new_app h fun op hop _ x hx hk => (no op hop x hx).elim, over_app h fun op hop b hb => (no op hop b hb).elim, norel_app h.norel hr⟩
theorem CJ.grow {Own' : Nat → Loc → Prop} (h : CJ s0 Sh Own Rd a t N) (hm : ∀ k l, Own k l → Own' k l) (hn : ∀ k l, Own' k l → Own k l ∨ ∀ i x, touchAt t i = some x → x.loc ≠ l) : CJ s0 Sh Own' Rd a t N := by
  refine ⟨h.quiet, fun k k1 kj l hmem hl => ?_, h.rd, fun l hmem hs hl => ?_, fun l hmem hs hl => ?_, h.nr, h.gs, h.old, h.new, h.over, h.norel⟩
  · rcases hn k l hl with h1 | h1
    · exact h.own k k1 kj l hmem h1
    · exact fun i x hx e => absurd e (h1 i x hx)
  · exact h.free l hmem hs fun k k1 kj => ⟨fun ho => (hl k k1 kj).1 (hm k l ho), (hl k k1 kj).2⟩
  · exact h.mine l hmem hs fun k k1 kj ho => hl k k1 kj (hm k l ho)
theorem CJ.fork (A : Apart s0 Sh Own Rd) (hs : s0 ≤ N) (h : CJ s0 Sh Own Rd a t N) {x y : MemOp} (hx : x.g = 0 ∧ x.act = .go N) (hy : y.g = N ∧ y.act = .start) (h0 : Deaf t 0 = 0) (hp : 1 ≤ N) : CJ s0 Sh Own Rd a (t ++ #[x, y]) (N + 1) := by
  have hk : Deaf t N = 0 := Deaf_absent fun i op hi e => by have := h.gs op (Array.mem_of_getElem? hi); omega
  have hnt : ∀ op ∈ #[x, y], ∀ b, op.act.touch? = some b → False := by
    intro op hop b hb
    simp only [List.mem_toArray, List.mem_cons, List.not_mem_nil, or_false] at hop
    rcases hop with rfl | rfl
    · rw [hx.2] at hb; cases hb
    · rw [hy.2] at hb; cases hb
  have old : ∀ {i : Nat} {b : Touch}, touchAt (t ++ #[x, y]) i = some b → touchAt t i = some b := by
    intro i b hb
    obtain ⟨z, hz, hza⟩ := touch_of hb
    rcases getElem?_append_cases hz with ⟨_, hz'⟩ | ⟨_, hzu⟩
    · rw [touchAt_of hz']; exact hza
    · exact (hnt z hzu b hza).elim
  refine ⟨h.quiet.app fun op hop b hb _ => (hnt op hop b hb).elim, fun k k1 kj l hm hl => ?_, fun k k1 kj l hm hl => ?_,
    fun l hm hs' hl => (h.free l hm hs' fun k k1 kj => hl k k1 (by omega)).app fun op hop b hb _ => (hnt op hop b hb).elim, fun l hm hs' hl => (h.mine l hm hs' fun k k1 kj => hl k k1 (by omega)).app fun op hop b hb _ _ => (hnt op hop b hb).elim, fun said => ?_, fun op hop => ?_,
    old_app h fun op hop b hb => (hnt op hop b hb).elim, new_app h fun op hop _ b hb _ => (hnt op hop b hb).elim, over_app h fun op hop b hb => (hnt op hop b hb).elim, norel_app h.norel fun op hop e => ?_⟩
  · rcases Nat.lt_or_ge k N with hlt | hge
    · exact (h.own k k1 hlt l hm hl).app fun op hop b hb _ => (hnt op hop b hb).elim
    · obtain rfl : k = N := by omega
      exact fun i b ha e => fork_knows hx hy h0 hk (h.free l hm (A.ownSh _ l k1 hl) (fun k' k1' k'j => ⟨fun ho => by have := A.own _ _ l k1' k1 ho hl; omega, A.ownRd _ _ l k1 k1' hl⟩) i b (old ha) e)
  · rcases Nat.lt_or_ge k N with hlt | hge
    · exact (h.rd k k1 hlt l hm hl).app fun op hop b hb _ _ => (hnt op hop b hb).elim
    · obtain rfl : k = N := by omega
      exact fun i b ha e hw => fork_knows hx hy h0 hk (h.mine l hm (A.rdSh _ l k1 hl) (fun k' k1' _ ho => A.ownRd _ _ l k1' k1 ho hl) i b (old ha) e hw)
  · have e : t ++ #[x, y] = (t ++ #[x]) ++ #[y] := by apply Array.ext'; simp
    rw [e]
    refine noRace_append (g := N) (noRace_append (g := 0) (h.nr said) (fun op hop => by simp at hop; rw [hop]; exact hx.1) (fun i b _ op hop c hc _ => (hnt op (by simp at hop ⊢; exact .inl hop) c hc).elim))
      (fun op hop => by simp at hop; rw [hop]; exact hy.1) (fun i b _ op hop c hc _ => (hnt op (by simp at hop ⊢; exact .inr hop) c hc).elim)
  · rcases Array.mem_append.1 hop with h1 | h1
    · exact Nat.lt_succ_of_lt (h.gs op h1)
    · simp only [List.mem_toArray, List.mem_cons, List.not_mem_nil, or_false] at h1
      rcases h1 with rfl | rfl
      · rw [hx.1]; omega
      · rw [hy.1]; omega
  · simp only [List.mem_toArray, List.mem_cons, List.not_mem_nil, or_false] at hop
    rcases hop with rfl | rfl
    · rw [hx.2] at e; cases e
    · rw [hy.2] at e; cases e
end
end Go.CJ
end
section
namespace Go.CJ
open Go.Conc Go.ConcN
set_option linter.unusedVariables false
set_option linter.unusedSimpArgs false
set_option linter.unusedSectionVars false
section
variable {s0 N B : Nat} {Sh Shun : Loc → Prop} {Own Rd : Nat → Loc → Prop} {a : Addr} {t u : Trace}
theorem touch_low {x : MemAct} {y : Touch} (h : x.touch? = some y) (hl : x.low B) : y.loc.low B := by
  cases x with
  | access e => simp only [MemAct.touch?, Option.some.injEq] at h; subst h; exact hl
  | mark m => cases m <;> simp only [MemAct.touch?, Option.some.injEq, reduceCtorEq] at h <;> (subst h; exact hl)
  | _ => cases h
theorem touchAt_low (hl : ∀ op ∈ t, op.act.low B) {i : Nat} {x : Touch} (h : touchAt t i = some x) : x.loc.low B := by
  obtain ⟨op, ho, hx⟩ := touch_of h
  exact touch_low hx (hl op (Array.mem_of_getElem? ho))
theorem g_lt (hg : ∀ op ∈ t, op.g < N) {i g : Nat} (h : t.g? i = some g) : g < N := by
  obtain ⟨op, ho, rfl⟩ := Option.map_eq_some_iff.1 h
  exact hg op (Array.mem_of_getElem? ho)
theorem CJ.start (hP : Past Shun B t) (hq : Quiet Shun t) (hg : ∀ op ∈ t, op.g < s0) (h1 : ∀ l, Sh l → Shun l ∨ ¬ l.low B) (h2 : ∀ l, Shun l → Sh l) (ha : B ≤ a.block) : CJ s0 Sh Own Rd a t s0 := by
  have kn : ∀ l, l.isMemory = true → ¬ Sh l → Perm t 0 l := fun l hm hs i x hx e => by
    subst e
    exact (hP.known i x hx hm).resolve_right fun h => hs (h2 _ h.1)
  refine ⟨fun i op x hi hx hs => ?_, fun k k1 kj => by omega, fun k k1 kj => by omega, fun l hm hs _ => kn l hm hs, fun l hm hs _ => PermW.of (kn l hm hs), hP.clean, hg, fun i x g hx hm hgi _ => (hP.known i x hx hm).imp id fun h => ⟨h2 _ h.1, h.2⟩, fun i x g hx hgi hs => ?_, fun i g hgi hne _ hc => hP.over i g hgi hne hc, fun i e => ?_⟩
  · rcases h1 _ hs with h | h
    · exact hq i op x hi hx h
    · exact absurd (touch_low hx (hP.seen op (Array.mem_of_getElem? hi))) h
  · have := g_lt hg hgi; omega
  · unfold Trace.act? at e
    obtain ⟨op, ho, ha'⟩ := Option.map_eq_some_iff.1 e
    have := hP.seen op (Array.mem_of_getElem? ho)
    rw [ha'] at this
    have : a.block < B := this
    omega
theorem CJ.past (h : CJ s0 Sh Own Rd a t N) (hl : ∀ op ∈ t, op.act.low B) (hd : Deaf t 0 = 0) {q : Nat} (hall : ∀ k, s0 ≤ k → k < N → ∃ r, RelBy a t k r ∧ r < q)
    (hq : t.act? q = some (.mark (.acquire a))) (hg : t.g? q = some 0) (hh : t.heard q) (hs0 : 1 ≤ s0) : Past Sh B t := by
  have edge : ∀ {k r : Nat}, RelBy a t k r → r < q → HappensBefore t r q := fun hr hrq => .single (.inr ⟨.marked hrq (.inr hr.act) hq (fun k _ _ => h.norel k), hr.heard, hh⟩)
  have before : ∀ {k r i : Nat}, RelBy a t k r → r < q → t.g? i = some k → i ≤ r → HappensBefore t i q := fun {k r i} hr hrq hi hle => by
    rcases Nat.lt_or_ge i r with hlt | hge
    · exact .trans (.single (.inl ⟨hlt, k, hi, hr.g⟩)) (edge hr hrq)
    · obtain rfl : i = r := by omega
      exact edge hr hrq
  obtain ⟨z, hz, hzg⟩ := Option.map_eq_some_iff.1 hg
  refine ⟨h.nr, fun i x hx hm => ?_, fun i g hgi hne hc => ?_, hd, hl⟩
  · obtain ⟨op, ho, hox⟩ := touch_of hx
    have hgi : t.g? i = some op.g := by unfold Trace.g?; rw [ho]; rfl
    rcases Nat.lt_or_ge op.g s0 with hlt | hge
    · exact h.old i x op.g hx hm hgi hlt
    · obtain ⟨r, hr, hrq⟩ := hall op.g hge (g_lt h.gs hgi)
      by_cases hc : t.counts i
      · have hle : i ≤ r := Nat.le_of_not_lt fun hlt => hr.after i hlt hgi hc
        exact Or.inl ⟨q, z, hz, hzg, .inr (before hr hrq hgi hle)⟩
      · have hk : x.kind = .atomic := Classical.byContradiction fun hk => hc ⟨x, hx, hm, .inl hk⟩
        exact Or.inr ⟨h.new i x op.g hx hgi hge hk, hk⟩
  · rcases Nat.lt_or_ge g s0 with hlt | hge
    · exact h.over i g hgi hne hlt hc
    · obtain ⟨r, hr, hrq⟩ := hall g hge (g_lt h.gs hgi)
      exact ⟨q, hg, before hr hrq hgi (Nat.le_of_not_lt fun hlt => hr.after i hlt hgi hc)⟩
end
end Go.CJ
end
section
namespace Go.Dw.J
open Go.Dw Go.RowKit
open Go.Conc (G crowd Goes Deaf QuitsD woken awake woken_run woken_quitsD Aside)
open Go.ConcR (KK WgAt stA smA Payload DC0)
open Go.ConcN (RW DWs AtR0 AtK1 AtD1 AtD2 AtD3 AtD4 WgLive Has RelBy PayAt AsideCell upd upd_same upd_ne)
set_option linter.unusedVariables false
set_option linter.unusedSimpArgs false
set_option linter.unusedSectionVars false
theorem Fits.status [Comp] {P : Program} {Stop : Goroutine → World → Prop} (hs : ∀ g A, Stop g A → g.status = .running) {T : Tree} {g : Goroutine} {A : World} (h : Fits P Stop T g A) : g.status = .running := by
  cases T with
  | stop => exact hs _ _ h
  | node k => exact h.1
theorem goes_status {P : Program} {main : Bool} {R : World → World → Prop} {D : World → World → Array Event → Prop} {Stop : Goroutine → World → Prop} (hR : ∀ w, R w w) (hs : ∀ g w, Stop g w → g.status = .running) {m : Nat} {g : Goroutine} {w : World} (h : Goes P main R D Stop m g w) : g.status = .running := by
  cases m with
  | zero => exact hs _ _ (h w (hR w))
  | succ m => exact h.elim (fun h => hs _ _ (h w (hR w))) (fun h => h.1)
structure Ph where
  P : Program
  Post : Value → World → Prop
  ty : TypeId
  n : Nat
  C : Nat
  sz : Nat
  TT : TypeId
  Out : Nat → List Value → World → Prop
  Wg : Nat
  s0 : Nat
  Shun : Loc → Prop
  A0 : World
  W0 : World
structure WS where
  stage : Nat
  tr : Tree
  A : World
  AR : World
  row : List Value
  ob : Nat → Prop
  bx : Nat
  val : Value
section
variable [Payload] (ph : Ph)
def Ph.N0 : Nat := ph.Wg + 1
def ShP (l : Loc) : Prop := ph.Shun l ∨ inBlk ph.Wg l
def OwnP (D : Nat → WS) (k : Nat) (l : Loc) : Prop := (∃ b, inBlk b l ∧ (D k).ob b) ∨ ∃ j, j < ph.sz ∧ l = .cell ⟨ph.C, (k - ph.s0) * ph.sz + j, none⟩
def RdP (_ : Nat) (l : Loc) : Prop := ∃ b, inBlk b l ∧ b < ph.Wg ∧ b ≠ ph.C ∧ Seen ph.A0 b
def StopW (bx : Nat) (val : Value) (g : Goroutine) (A : World) : Prop :=
  g0 A = 1 ∧ g.status = .running ∧ ∀ w, WgLive ph.ty ph.Wg w ∧ Has bx 0 val w → ∃ m, Goes ph.P false (RW ph.ty ph.Wg bx 1 0 0) DC0 (AtR0 ph.P ph.ty ph.Wg bx 1 0 1 val) m g w
def FitsW (k : Nat) (x : WS) (g : Goroutine) (A : World) : Prop :=
  @Fits (compW ph.C ph.n ph.sz (k - ph.s0) ph.TT (ph.Out (k - ph.s0)) x.bx x.val Payload.ety) ph.P (StopW ph x.bx x.val) x.tr g A
inductive Sit (k : Nat) (x : WS) : Nat → Goroutine → World → Nat → Prop
  | go {g : Goroutine} {w : World} : FitsW ph k x g x.A → Sees x.A w → Rds ph.N0 x.A → ¬ Seen x.A ph.C → ¬ Seen x.A ph.Wg → (g0 x.A = 0 ∨ g0 x.A = 1) → (∀ b, ph.N0 ≤ b → Seen x.A b → x.ob b) → (∀ b, b < ph.N0 → Seen x.A b → Seen ph.A0 b) → Sit k x 8 g w 0
  | r0 {g : Goroutine} {w : World} {m : Nat} : x.tr = chain m → Goes ph.P false (RW ph.ty ph.Wg x.bx 1 0 0) DC0 (AtR0 ph.P ph.ty ph.Wg x.bx 1 0 1 x.val) m g w → Sit k x 7 g w 0
  | k1 {g : Goroutine} {w : World} {m : Nat} : x.tr = chain m → Goes ph.P false (RW ph.ty ph.Wg x.bx 1 0 0) DC0 (AtK1 ph.P ph.ty ph.Wg x.bx 1 0 1) m g w → Sit k x 6 g w 0
  | d1 {g : Goroutine} {w : World} {m : Nat} : x.tr = chain m → Goes ph.P false (RW ph.ty ph.Wg x.bx 1 0 0) DC0 (AtD1 ph.P ph.ty ph.Wg x.bx 1 0 1) m g w → Sit k x 5 g w 1
  | d2 {g : Goroutine} {w : World} {m : Nat} : x.tr = chain m → Goes ph.P false (RW ph.ty ph.Wg x.bx 1 0 0) DC0 (AtD2 ph.P ph.ty ph.Wg x.bx 1 0 1) m g w → Sit k x 4 g w 1
  | d3 {g : Goroutine} {w : World} {m : Nat} : x.tr = chain m → Goes ph.P false (RW ph.ty ph.Wg x.bx 1 0 0) DC0 (AtD3 ph.P ph.ty ph.Wg x.bx 1 0 1) m g w → Sit k x 3 g w 1
  | d4 {g : Goroutine} {w : World} {m : Nat} : x.tr = chain m → Goes ph.P false (RW ph.ty ph.Wg x.bx 1 0 0) DC0 (AtD4 ph.P ph.ty ph.Wg) m g w → Sit k x 2 g w 1
  | quit {g : Goroutine} {w : World} {m d : Nat} : x.tr = chain m → QuitsD ph.P m d g → Sit k x 1 g w d
structure Rec (k : Nat) (x : WS) (w : World) : Prop where
  sees : Sees x.AR w
  rds : Rds ph.N0 x.AR
  noC : ¬ Seen x.AR ph.C
  noWg : ¬ Seen x.AR ph.Wg
  out : ph.Out (k - ph.s0) x.row x.AR
  len : x.row.length = ph.sz
  laid : ∀ j v, x.row[j]? = some v → w.cell? ⟨ph.C, (k - ph.s0) * ph.sz + j, none⟩ = some v
  ob : ∀ b, ph.N0 ≤ b → Seen x.AR b → x.ob b
  fresh : x.stage = 8 → ∀ b, Seen x.A b → x.AR.heap.size ≤ b
  box : x.stage = 8 → w.heap[x.bx]? = some (.cells #[x.val] Payload.ety (0, 0)) ∧ ¬ Seen x.A x.bx
  nobx : ¬ Seen x.AR x.bx
  low0 : ∀ b, b < ph.N0 → Seen x.AR b → Seen ph.A0 b
end
section
variable [Payload] {ph : Ph} {k : Nat} {x : WS} {s d : Nat} {g : Goroutine} {w w' : World}
theorem Sit.status (h : Sit ph k x s g w d) : g.status = .running ∨ (s = 1 ∧ g.status = .finished) := by
  cases h with
  | go h => exact .inl (@Fits.status (compW ph.C ph.n ph.sz (k - ph.s0) ph.TT (ph.Out (k - ph.s0)) x.bx x.val Payload.ety) _ _ (fun _ _ h => h.2.1) _ _ _ h)
  | r0 _ h => exact .inl (goes_status RW.refl (fun _ _ h => h.1) h)
  | k1 _ h => exact .inl (goes_status RW.refl (fun _ _ h => h.1) h)
  | d1 _ h => exact .inl (goes_status RW.refl (fun _ _ h => h.1) h)
  | d2 _ h => exact .inl (goes_status RW.refl (fun _ _ h => h.1) h)
  | d3 _ h => exact .inl (goes_status RW.refl (fun _ _ h => h.1) h)
  | d4 _ h => exact .inl (goes_status RW.refl (fun _ _ h => h.1) h)
  | quit _ h => exact h.status.imp id fun h => ⟨rfl, h⟩
theorem Sit.woken (h : Sit ph k x s g w d) {a a' : Goroutine} : Go.Conc.woken ph.P a a' w' g = g := by
  unfold Go.Conc.woken
  split
  · exact Go.Conc.again_running _ (h.status.imp id fun h => h.2)
  · rfl
theorem Sit.other (h : Sit ph k x s g w d) (ho : w'.os = w.os) (hp : w'.output = w.output) (hs : w.heap.size ≤ w'.heap.size) (hlo : ∀ b, b < ph.N0 → b ≠ ph.C → b ≠ ph.Wg → w'.heap[b]? = w.heap[b]?) (hob : ∀ b, ph.N0 ≤ b → b < w.heap.size → x.ob b → w'.heap[b]? = w.heap[b]?)
    (hl : WgLive ph.ty ph.Wg w → WgLive ph.ty ph.Wg w') (hbx : s ≠ 1 → s ≠ 8 → w'.heap[x.bx]? = w.heap[x.bx]?) : Sit ph k x s g w' d := by
  have hR : s ≠ 1 → s ≠ 8 → RW ph.ty ph.Wg x.bx 1 0 0 w w' := fun h1 h8 => ⟨fun b hb => by omega, hl, fun ⟨cs, h2, h3⟩ => ⟨cs, (hbx h1 h8).trans h2, h3⟩, Go.ConcN.cell_of_block (hbx h1 h8) 0⟩
  have tr : ∀ a b c, RW ph.ty ph.Wg x.bx 1 0 0 a b → RW ph.ty ph.Wg x.bx 1 0 0 b c → RW ph.ty ph.Wg x.bx 1 0 0 a c := fun _ _ _ => RW.trans
  cases h with
  | go h1 h2 h3 h4 h5 h6 h7 h8 =>
    refine .go h1 (h2.still ho hp hs fun b hb => ?_) h3 h4 h5 h6 h7 h8
    rcases Nat.lt_or_ge b ph.N0 with hlt | hge
    · exact hlo b hlt (fun e => h4 (e ▸ hb)) (fun e => h5 (e ▸ hb))
    · exact hob b hge (Nat.lt_of_lt_of_le hb.1 h2.size) (h7 b hge hb)
  | r0 e h => exact .r0 e (h.rely tr (hR (by omega) (by omega)))
  | k1 e h => exact .k1 e (h.rely tr (hR (by omega) (by omega)))
  | d1 e h => exact .d1 e (h.rely tr (hR (by omega) (by omega)))
  | d2 e h => exact .d2 e (h.rely tr (hR (by omega) (by omega)))
  | d3 e h => exact .d3 e (h.rely tr (hR (by omega) (by omega)))
  | d4 e h => exact .d4 e (h.rely tr (hR (by omega) (by omega)))
  | quit e h => exact .quit e h
theorem Rec.other (h : Rec ph k x w) (ho : w'.os = w.os) (hp : w'.output = w.output) (hs : w.heap.size ≤ w'.heap.size) (hlo : ∀ b, b < ph.N0 → b ≠ ph.C → b ≠ ph.Wg → w'.heap[b]? = w.heap[b]?) (hob : ∀ b, ph.N0 ≤ b → b < w.heap.size → x.ob b → w'.heap[b]? = w.heap[b]?)
    (hC : ∀ j v, x.row[j]? = some v → w'.cell? ⟨ph.C, (k - ph.s0) * ph.sz + j, none⟩ = w.cell? ⟨ph.C, (k - ph.s0) * ph.sz + j, none⟩) (hbx : x.stage = 8 → w'.heap[x.bx]? = w.heap[x.bx]?) : Rec ph k x w' := by
  refine ⟨h.sees.still ho hp hs fun b hb => ?_, h.rds, h.noC, h.noWg, h.out, h.len, fun j v hj => (hC j v hj).trans (h.laid j v hj), h.ob, h.fresh, fun e => ⟨(hbx e).trans (h.box e).1, (h.box e).2⟩, h.nobx, h.low0⟩
  rcases Nat.lt_or_ge b ph.N0 with hlt | hge
  · exact hlo b hlt (fun e => h.noC (e ▸ hb)) (fun e => h.noWg (e ▸ hb))
  · exact hob b hge (Nat.lt_of_lt_of_le hb.1 h.sees.size) (h.ob b hge hb)
end
end Go.Dw.J
end
section
namespace Go.Dw.J
open Go.Dw Go.RowKit
open Go.Conc (G crowd Goes Deaf QuitsD woken awake woken_run woken_quitsD Aside Deaf_other Deaf_own)
open Go.ConcR (KK WgAt stA smA Payload DC0)
open Go.ConcN (RW DWs AtR0 AtK1 AtD1 AtD2 AtD3 AtD4 WgLive Has RelBy PayAt AsideCell upd upd_same upd_ne)
open Go.CJ (CJ OkW Ok0)
set_option linter.unusedVariables false
set_option linter.unusedSimpArgs false
set_option linter.unusedSectionVars false
theorem inBlk_inj {b b' : Nat} {l : Loc} (h : inBlk b l) (h' : inBlk b' l) : b = b' := by
  cases l with
  | cell a => exact h.symm.trans h'
  | obj r => exact h.symm.trans h'
  | _ => exact h.elim
theorem low_blk {B b : Nat} {l : Loc} (h : inBlk b l) (hl : l.low B) : b < B := by
  cases l with
  | cell a => cases h; exact hl
  | obj r => cases h; exact hl
  | _ => exact h.elim
structure Geo (ph : Ph) : Prop where
  CW : ph.C < ph.Wg
  seenC : Seen ph.A0 ph.C
  size : ph.A0.heap.size = ph.Wg
  shun : ∀ l b, ph.Shun l → inBlk b l → b < ph.Wg ∧ ¬ Seen ph.A0 b
  lies : ∀ l, ph.Shun l → ∃ b, inBlk b l
  nv : ∀ (b : Nat) (at_ : Addr) (u : TypeId), ph.A0.heap[b]? ≠ some (.view at_ u)
structure Com [Payload] (ph : Ph) (gs : Array Goroutine) (w : World) (t : Trace) (D : Nat → WS) : Prop where
  s1 : 1 ≤ ph.s0
  szl : ph.s0 ≤ gs.size
  szu : gs.size ≤ ph.s0 + ph.n
  wk : ∀ k, 1 ≤ k → k < gs.size → ∃ g, gs[k]? = some g ∧ Sit ph k (D k) (D k).stage g w (Deaf t k)
  old : ∀ k, 1 ≤ k → k < ph.s0 → (D k).stage = 1
  nob : ∀ k, k < ph.s0 ∨ gs.size ≤ k → ∀ b, ¬ (D k).ob b
  rcd : ∀ k, ph.s0 ≤ k → k < gs.size → ((D k).stage ≠ 8 ∨ g0 (D k).A = 1) → Rec ph k (D k) w
  rel : ∀ k, ph.s0 ≤ k → k < gs.size → (D k).stage ≤ 6 → ∃ r, RelBy (stA ph.Wg) t k r
  obl : ∀ k b, (D k).ob b → ph.N0 ≤ b ∧ b < w.heap.size
  oba : ∀ k k' b, k ≠ k' → (D k).ob b → ¬ (D k').ob b
  bxo : ∀ k, ph.s0 ≤ k → k < gs.size → (D k).ob (D k).bx
  cells : ph.n ≠ 0 → ∃ cs, w.heap[ph.C]? = some (.cells cs ph.TT (0, 0)) ∧ cs.size = ph.n * ph.sz
  live : WgLive ph.ty ph.Wg w
  vis0 : ∀ b, b < ph.Wg → b ≠ ph.C → Vis ph.A0.heap[b]? w.heap[b]?
  os0 : ph.A0.os = w.os
  out0 : ph.A0.output = w.output
  ct : CJ ph.s0 (ShP ph) (OwnP ph D) (RdP ph) (stA ph.Wg) t gs.size
  above : ∀ k, gs.size ≤ k → Deaf t k = 0
  low : ∀ op ∈ t, op.act.low w.heap.size
  same : ∀ b, b < ph.Wg → b ≠ ph.C → w.heap[b]? = ph.W0.heap[b]?
section
variable [Payload] {ph : Ph} {gs : Array Goroutine} {w w' : World} {t : Trace} {D : Nat → WS}
theorem row_cell_inj {sz a a' j j' : Nat} (hj : j < sz) (hj' : j' < sz) (e : a * sz + j = a' * sz + j') : a = a' := by
  have h1 : (a * sz + j) / sz = a := by rw [Nat.add_comm, Nat.add_mul_div_right _ _ (by omega), Nat.div_eq_of_lt hj, Nat.zero_add]
  have h2 : (a' * sz + j') / sz = a' := by rw [Nat.add_comm, Nat.add_mul_div_right _ _ (by omega), Nat.div_eq_of_lt hj', Nat.zero_add]
  rw [← h1, e, h2]
theorem apart_of (hG : Geo ph) (hl : ∀ k b, (D k).ob b → ph.N0 ≤ b) (ha : ∀ k k' b, k ≠ k' → (D k).ob b → ¬ (D k').ob b) : Go.CJ.Apart ph.s0 (ShP ph) (OwnP ph D) (RdP ph) := by
  have hCW := hG.CW
  refine ⟨fun k k' l hk hk' h h' => ?_, fun k k' l hk hk' h h' => ?_, fun k l hk h h' => ?_, fun k l hk h h' => ?_⟩
  · rcases h with ⟨b, h1, h2⟩ | ⟨j, h1, h2⟩ <;> rcases h' with ⟨b', h3, h4⟩ | ⟨j', h3, h4⟩
    · cases inBlk_inj h1 h3
      exact Classical.byContradiction fun hne => ha k k' b hne h2 h4
    · subst h4
      have : ph.C = b := h1
      have := hl k b h2
      unfold Ph.N0 at this; omega
    · subst h2
      have : ph.C = b' := h3
      have := hl k' b' h4
      unfold Ph.N0 at this; omega
    · subst h2
      simp only [Loc.cell.injEq, Addr.mk.injEq, true_and, and_true] at h4
      have := row_cell_inj h1 h3 h4
      omega
  · obtain ⟨b', h3, h4, h5, h6⟩ := h'
    rcases h with ⟨b, h1, h2⟩ | ⟨j, h1, h2⟩
    · have e := inBlk_inj h1 h3
      have := hl k b h2
      unfold Ph.N0 at this; omega
    · subst h2; exact h5 (Eq.symm h3)
  · rcases h' with h' | h'
    · rcases h with ⟨b, h1, h2⟩ | ⟨j, h1, h2⟩
      · have := (hG.shun l b h' h1).1
        have := hl k b h2
        unfold Ph.N0 at this; omega
      · subst h2; exact (hG.shun _ ph.C h' rfl).2 hG.seenC
    · rcases h with ⟨b, h1, h2⟩ | ⟨j, h1, h2⟩
      · cases inBlk_inj h1 h'
        have := hl k _ h2
        unfold Ph.N0 at this; omega
      · subst h2
        have : ph.C = ph.Wg := h'
        omega
  · obtain ⟨b, h1, h2, h3, h4⟩ := h
    rcases h' with h' | h'
    · exact (hG.shun l b h' h1).2 h4
    · cases inBlk_inj h1 h'; omega
theorem Com.apart (hG : Geo ph) (h : Com ph gs w t D) : Go.CJ.Apart ph.s0 (ShP ph) (OwnP ph D) (RdP ph) := apart_of hG (fun k b hb => (h.obl k b hb).1) h.oba
theorem Com.growCT (h : Com ph gs w t D) {k : Nat} {x' : WS} (hm : ∀ b, (D k).ob b → x'.ob b) (hn : ∀ b, x'.ob b → (D k).ob b ∨ w.heap.size ≤ b) : CJ ph.s0 (ShP ph) (OwnP ph (upd D k x')) (RdP ph) (stA ph.Wg) t gs.size := by
  refine h.ct.grow (fun j l hl => ?_) fun j l hl => ?_
  · rcases hl with ⟨b, h1, h2⟩ | h1
    · refine Or.inl ⟨b, h1, ?_⟩
      by_cases e : j = k
      · subst e; rw [upd_same]; exact hm b h2
      · rw [upd_ne D _ e]; exact h2
    · exact Or.inr h1
  · rcases hl with ⟨b, h1, h2⟩ | h1
    · by_cases e : j = k
      · subst e
        rw [upd_same] at h2
        rcases hn b h2 with h3 | h3
        · exact Or.inl (Or.inl ⟨b, h1, h3⟩)
        · refine Or.inr fun i y hy e2 => ?_
          have h4 := Go.CJ.touchAt_low h.low hy
          rw [e2] at h4
          have := low_blk h1 h4
          omega
      · rw [upd_ne D _ e] at h2
        exact Or.inl (Or.inl ⟨b, h1, h2⟩)
    · exact Or.inl (Or.inr h1)
theorem Com.stepK (h : Com ph gs w t D) {k : Nat} (hk : k < gs.size) {gk g' : Goroutine} {D' : Nat → WS} {fn : FuncId} {pos : String} {es : Array Event} (hD : ∀ j, j ≠ k → D' j = D j) (ho : w'.os = w.os) (hp : w'.output = w.output) (hs : w.heap.size ≤ w'.heap.size)
    (hlo : ∀ b, b < ph.N0 → b ≠ ph.C → b ≠ ph.Wg → w'.heap[b]? = w.heap[b]?) (hob : ∀ j, j ≠ k → ∀ b, (D j).ob b → w'.heap[b]? = w.heap[b]?) (hl : WgLive ph.ty ph.Wg w → WgLive ph.ty ph.Wg w') (hC : ph.n ≠ 0 → ∃ cs, w'.heap[ph.C]? = some (.cells cs ph.TT (0, 0)) ∧ cs.size = ph.n * ph.sz)
    (hrow : ∀ j, j ≠ k → ph.s0 ≤ j → ∀ i, i < ph.sz → w'.cell? ⟨ph.C, (j - ph.s0) * ph.sz + i, none⟩ = w.cell? ⟨ph.C, (j - ph.s0) * ph.sz + i, none⟩)
    (hself : 1 ≤ k → Sit ph k (D' k) (D' k).stage g' w' (Deaf (t ++ MemOp.ofEvents k fn pos es) k)) (hold : 1 ≤ k → k < ph.s0 → (D' k).stage = 1) (hrcd : ph.s0 ≤ k → ((D' k).stage ≠ 8 ∨ g0 (D' k).A = 1) → Rec ph k (D' k) w')
    (hrel : ph.s0 ≤ k → (D' k).stage ≤ 6 → ∃ r, RelBy (stA ph.Wg) (t ++ MemOp.ofEvents k fn pos es) k r) (hbx : ph.s0 ≤ k → (D' k).ob (D' k).bx) (hnone : k < ph.s0 → ∀ b, ¬ (D' k).ob b) (hobk : ∀ b, (D' k).ob b → ph.N0 ≤ b ∧ b < w'.heap.size ∧ ∀ j, j ≠ k → ¬ (D j).ob b)
    (hct : CJ ph.s0 (ShP ph) (OwnP ph D') (RdP ph) (stA ph.Wg) (t ++ MemOp.ofEvents k fn pos es) gs.size) (hlow : ∀ e ∈ es, (MemAct.ofEvent e).low w'.heap.size) :
    Com ph ((gs.map (woken ph.P gk g' w')).setIfInBounds k g') w' (t ++ MemOp.ofEvents k fn pos es) D' := by
  have hgo : ∀ op ∈ MemOp.ofEvents k fn pos es, op.g = k := fun op hop => by obtain ⟨e, _, rfl⟩ := Go.Conc.mem_ofEvents hop; rfl
  have hsz : ((gs.map (woken ph.P gk g' w')).setIfInBounds k g').size = gs.size := by simp
  have hlt : ∀ j b, j ≠ k → (D j).ob b → b < w.heap.size := fun j b _ hb => (h.obl j b hb).2
  refine ⟨h.s1, by rw [hsz]; exact h.szl, by rw [hsz]; exact h.szu, fun j h1 h2 => ?_, fun j h1 h2 => ?_, fun j hj b => ?_, fun j h1 h2 h3 => ?_, fun j h1 h2 h3 => ?_, fun j b hb => ?_, fun j j' b hne hb hb' => ?_, fun j h1 h2 => ?_, hC, hl h.live, fun b hb hbC => ?_, h.os0.trans ho.symm, h.out0.trans hp.symm, by rw [hsz]; exact hct, fun j hj => ?_, fun op hop => ?_, fun b hb hbC => (hlo b (by unfold Ph.N0; omega) hbC (by omega)).trans (h.same b hb hbC)⟩
  · rw [hsz] at h2
    by_cases e : j = k
    · subst e
      exact ⟨g', by rw [Array.getElem?_setIfInBounds_self_of_lt (by simpa using h2)], hself h1⟩
    · obtain ⟨g, hg, hsit⟩ := h.wk j h1 h2
      refine ⟨g, ?_, ?_⟩
      · rw [Array.getElem?_setIfInBounds_ne (Ne.symm e), Array.getElem?_map, hg, Option.map_some, hsit.woken]
      · rw [hD j e, Deaf_other t (g' := k) (Ne.symm e) _ hgo]
        refine hsit.other ho hp hs hlo (fun b _ _ hb => hob j e b hb) hl fun h3 h4 => ?_
        rcases Nat.lt_or_ge j ph.s0 with h5 | h5
        · exact absurd (h.old j h1 h5) h3
        · exact hob j e _ (h.bxo j h5 h2)
  · by_cases e : j = k
    · subst e; exact hold h1 h2
    · rw [hD j e]; exact h.old j h1 h2
  · rw [hsz] at hj
    by_cases e : j = k
    · subst e
      rcases hj with h1 | h1
      · exact hnone h1 b
      · omega
    · rw [hD j e]; exact h.nob j hj b
  · rw [hsz] at h2
    by_cases e : j = k
    · subst e; exact hrcd h1 h3
    · rw [hD j e] at h3 ⊢
      have hr := h.rcd j h1 h2 h3
      refine hr.other ho hp hs hlo (fun b _ _ hb => hob j e b hb) (fun i v hi => hrow j e h1 i ?_) fun _ => hob j e _ (h.bxo j h1 h2)
      rw [← hr.len]
      exact (List.getElem?_eq_some_iff.1 hi).1
  · rw [hsz] at h2
    by_cases e : j = k
    · subst e; exact hrel h1 h3
    · rw [hD j e] at h3
      obtain ⟨r, hr⟩ := h.rel j h1 h2 h3
      exact ⟨r, hr.appOther hgo (Ne.symm e)⟩
  · by_cases e : j = k
    · subst e; exact ⟨(hobk b hb).1, (hobk b hb).2.1⟩
    · rw [hD j e] at hb
      exact ⟨(h.obl j b hb).1, Nat.lt_of_lt_of_le (h.obl j b hb).2 hs⟩
  · by_cases e : j = k
    · subst e
      rw [hD j' (Ne.symm hne)] at hb'
      exact (hobk b hb).2.2 j' (Ne.symm hne) hb'
    · by_cases e' : j' = k
      · subst e'
        rw [hD j e] at hb
        exact (hobk b hb').2.2 j e hb
      · rw [hD j e] at hb
        rw [hD j' e'] at hb'
        exact h.oba j j' b hne hb hb'
  · rw [hsz] at h2
    by_cases e : j = k
    · subst e; exact hbx h1
    · rw [hD j e]; exact h.bxo j h1 h2
  · rw [hlo b (by unfold Ph.N0; omega) hbC (by omega)]
    exact h.vis0 b hb hbC
  · rw [hsz] at hj
    rw [Deaf_other t (g' := k) (by omega) _ hgo]
    exact h.above j hj
  · rcases Array.mem_append.1 hop with h1 | h1
    · exact MemAct.low_mono hs (h.low op h1)
    · obtain ⟨e, he, rfl⟩ := Go.Conc.mem_ofEvents h1
      exact hlow e he
end
end Go.Dw.J
end
section
namespace Go.Dw.J
open Go.Dw Go.RowKit
open Go.Conc (G crowd Goes Deaf QuitsD woken awake woken_run woken_quitsD Aside Deaf_other Deaf_own)
open Go.ConcR (KK WgAt stA smA Payload DC0)
open Go.ConcN (WgLive sumTo sumTo_congr le_sumTo sumTo_upd upd upd_same upd_ne)
set_option linter.unusedVariables false
set_option linter.unusedSimpArgs false
set_option linter.unusedSectionVars false
def cnt (s : Nat) : Nat := if 5 ≤ s then 1 else 0
def Vc (n : Nat) (σ : Nat → Nat) : Nat := sumTo n fun i => cnt (σ i)
inductive Md (n : Nat) (σ : Nat → Nat) (s v : Nat) : Int → Int → Prop
  | pre : s = 1 ∨ s = 2 → (∀ i, i < n → σ i = 9) → Md n σ s v 0 0
  | opn : s = 3 ∨ s = 4 ∨ s = 5 → (∀ i, i < n → 5 ≤ σ i ∨ σ i = 1) → (s = 5 → Vc n σ ≤ v) → Md n σ s v ((Vc n σ : Nat) * KK) 0
  | reg : s = 6 → (∀ i, i < n → 5 ≤ σ i ∨ σ i = 1) → 1 ≤ Vc n σ → Md n σ s v ((Vc n σ : Nat) * KK + 1) 0
  | last (L : Nat) : s = 6 → L < n → (σ L = 4 ∨ σ L = 3 ∨ σ L = 2) → (∀ i, i < n → i ≠ L → σ i = 1) → Md n σ s v (if σ L = 2 then 0 else 1) 0
  | sema : s = 6 → (∀ i, i < n → σ i = 1) → Md n σ s v 0 1
  | fin : s = 8 ∨ s = 9 → (∀ i, i < n → σ i = 1) → Md n σ s v 0 0
theorem Vc_congr {n : Nat} {σ τ : Nat → Nat} (h : ∀ i, i < n → τ i = σ i) : Vc n τ = Vc n σ := sumTo_congr fun i hi => by simp only [h i hi]
theorem Md.congr {n : Nat} {σ τ : Nat → Nat} {s v : Nat} {st sm : Int} (hm : Md n σ s v st sm) (h : ∀ i, i < n → τ i = σ i) : Md n τ s v st sm := by
  have hv := Vc_congr h
  cases hm with
  | pre h1 h2 => exact .pre h1 fun i hi => (h i hi).trans (h2 i hi)
  | opn h1 h2 h3 => rw [← hv]; exact .opn h1 (fun i hi => by rw [h i hi]; exact h2 i hi) (fun e => by rw [hv]; exact h3 e)
  | reg h1 h2 h3 => rw [← hv]; exact .reg h1 (fun i hi => by rw [h i hi]; exact h2 i hi) (by rw [hv]; exact h3)
  | last L h1 h2 h3 h4 => rw [← h L h2]; exact .last L h1 h2 (by rw [h L h2]; exact h3) fun i hi e => by rw [h i hi]; exact h4 i hi e
  | sema h1 h2 => exact .sema h1 fun i hi => (h i hi).trans (h2 i hi)
  | fin h1 h2 => exact .fin h1 fun i hi => (h i hi).trans (h2 i hi)
theorem Vc_upd {n i : Nat} (σ : Nat → Nat) (x : Nat) (hi : i < n) : Vc n (upd σ i x) + cnt (σ i) = Vc n σ + cnt x := sumTo_upd σ x cnt hi
theorem Vc_le (n : Nat) (σ : Nat → Nat) : Vc n σ ≤ n := by
  have := Go.ConcN.sumTo_le (f := fun i => cnt (σ i)) (c := 1) (j := n) fun i _ => by simp only [cnt]; split <;> omega
  simpa [Vc] using this
theorem Md.counted {n i : Nat} {σ : Nat → Nat} {s v : Nat} {st sm : Int} (hm : Md n σ s v st sm) (hi : i < n) (h5 : 5 ≤ σ i) (h9 : σ i ≠ 9) {x : Nat} (hx : 5 ≤ x) : Md n (upd σ i x) s v st sm := by
  have hv : Vc n (upd σ i x) = Vc n σ := by
    have := Vc_upd σ x hi
    have c1 : cnt (σ i) = 1 := by simp [cnt, h5]
    have c2 : cnt x = 1 := by simp [cnt, hx]
    omega
  have ho : (∀ i, i < n → 5 ≤ σ i ∨ σ i = 1) → ∀ a, a < n → 5 ≤ upd σ i x a ∨ upd σ i x a = 1 := fun h a ha => by
    by_cases e : a = i
    · subst e; rw [upd_same]; exact .inl hx
    · rw [upd_ne σ _ e]; exact h a ha
  cases hm with
  | pre h1 h2 => exact absurd (h2 i hi) h9
  | opn h1 h2 h3 => rw [← hv]; exact .opn h1 (ho h2) (fun e => by rw [hv]; exact h3 e)
  | reg h1 h2 h3 => rw [← hv]; exact .reg h1 (ho h2) (by rw [hv]; exact h3)
  | last L h1 h2 h3 h4 =>
    by_cases e : i = L
    · subst e; omega
    · have := h4 i hi e; omega
  | sema h1 h2 => have := h2 i hi; omega
  | fin h1 h2 => have := h2 i hi; omega
theorem Md.isLast {n i : Nat} {σ : Nat → Nat} {s v : Nat} {st sm : Int} (hm : Md n σ s v st sm) (hi : i < n) (h : σ i = 4 ∨ σ i = 3 ∨ σ i = 2) : s = 6 ∧ (∀ a, a < n → a ≠ i → σ a = 1) ∧ st = (if σ i = 2 then 0 else 1) ∧ sm = 0 := by
  cases hm with
  | pre _ h2 => have := h2 i hi; omega
  | opn _ h2 _ => have := h2 i hi; omega
  | reg _ h2 _ => have := h2 i hi; omega
  | last L h1 h2 h3 h4 =>
    by_cases e : i = L
    · subst e; exact ⟨h1, h4, rfl, rfl⟩
    · have := h4 i hi e; omega
  | sema _ h2 => have := h2 i hi; omega
  | fin _ h2 => have := h2 i hi; omega
theorem others_uncounted {n i : Nat} {σ : Nat → Nat} (hi : i < n) (h1 : Vc n σ = 1) (hc : cnt (σ i) = 1) : ∀ a, a < n → a ≠ i → cnt (σ a) = 0 := by
  intro a ha e
  have h0 := Vc_upd σ 0 hi
  have c0 : cnt 0 = 0 := rfl
  have := le_sumTo (f := fun x => cnt (upd σ i 0 x)) ha
  simp only [upd_ne σ _ e] at this
  simp only [Vc] at h0 h1
  omega
theorem Md.add {n i : Nat} {σ : Nat → Nat} {s v : Nat} {st sm : Int} (hm : Md n σ s v st sm) (hi : i < n) (h5 : 5 ≤ σ i) (h9 : σ i ≠ 9) :
    sm = 0 ∧ ∃ v0 wt : Nat, wt ≤ 1 ∧ v0 + 1 ≤ n ∧ st = ((v0 : Int) + 1) * KK + wt ∧
      ((v0 = 0 ∧ wt = 1) → Md n (upd σ i 4) s v ((v0 : Int) * KK + wt) 0) ∧ (¬ (v0 = 0 ∧ wt = 1) → Md n (upd σ i 1) s v ((v0 : Int) * KK + wt) 0) := by
  have c1 : cnt (σ i) = 1 := by simp [cnt, h5]
  have hle := Vc_le n σ
  have hV1 : 1 ≤ Vc n σ := by have := le_sumTo (f := fun x => cnt (σ x)) hi; simp only [Vc]; omega
  have hv : Vc n (upd σ i 1) + 1 = Vc n σ := by
    have := Vc_upd σ 1 hi
    have c2 : cnt 1 = 0 := rfl
    omega
  have ho : (∀ i, i < n → 5 ≤ σ i ∨ σ i = 1) → ∀ a, a < n → 5 ≤ upd σ i 1 a ∨ upd σ i 1 a = 1 := fun h a ha => by
    by_cases e : a = i
    · subst e; rw [upd_same]; exact .inr rfl
    · rw [upd_ne σ _ e]; exact h a ha
  cases hm with
  | pre h1 h2 => exact absurd (h2 i hi) h9
  | opn h1 h2 h3 =>
    refine ⟨rfl, Vc n (upd σ i 1), 0, by omega, by omega, ?_, fun h => by omega, fun _ => ?_⟩
    · rw [← hv]; push_cast; omega
    · have := Md.opn (n := n) (σ := upd σ i 1) (s := s) (v := v) h1 (ho h2) (fun e => by have := h3 e; omega)
      simpa using this
  | reg h1 h2 h3 =>
    refine ⟨rfl, Vc n (upd σ i 1), 1, by omega, by omega, ?_, fun h => ?_, fun h => ?_⟩
    · rw [← hv]; push_cast; omega
    · have hoth : ∀ a, a < n → a ≠ i → upd σ i 4 a = 1 := fun a ha e => by
        rw [upd_ne σ _ e]
        have c0 := others_uncounted hi (by omega) c1 a ha e
        have := h2 a ha
        simp only [cnt] at c0
        split at c0 <;> omega
      have := Md.last (n := n) (σ := upd σ i 4) (s := s) (v := v) i h1 hi (by rw [upd_same]; exact .inl rfl) hoth
      rw [upd_same] at this
      rw [h.1]
      simpa using this
    · have := Md.reg (n := n) (σ := upd σ i 1) (s := s) (v := v) h1 (ho h2) (by omega)
      simpa using this
  | last L h1 h2 h3 h4 =>
    by_cases e : i = L
    · subst e; omega
    · have := h4 i hi e; omega
  | sema h1 h2 => have := h2 i hi; omega
  | fin h1 h2 => have := h2 i hi; omega
end Go.Dw.J
end
section
namespace Go.Dw.J
open Go.Dw Go.RowKit
open Go.Conc (G crowd Goes Deaf QuitsD woken awake woken_run woken_quitsD Aside Deaf_other Deaf_own)
open Go.ConcR (KK WgAt stA smA Payload DC0 Bk ofEvent_cell ofEvent_loc_mark)
open Go.ConcN (RW AtR0 AtK1 AtD1 AtD2 AtD3 AtD4 WgLive Has RelBy PayAt sumTo sumTo_congr le_sumTo sumTo_upd upd upd_same upd_ne)
open Go.CJ (CJ OkW Ok0)
set_option linter.unusedVariables false
set_option linter.unusedSimpArgs false
set_option linter.unusedSectionVars false
section
variable {n i s v : Nat} {σ : Nat → Nat} {st sm : Int}
theorem Md.lastTo (hm : Md n σ s v st sm) (hi : i < n) (h : σ i = 4 ∨ σ i = 3 ∨ σ i = 2) {x : Nat} (hx : x = 4 ∨ x = 3 ∨ x = 2) : Md n (upd σ i x) s v (if x = 2 then 0 else 1) 0 := by
  obtain ⟨h1, h2, _⟩ := hm.isLast hi h
  have := Md.last (n := n) (σ := upd σ i x) (s := s) (v := v) i h1 hi (by rw [upd_same]; exact hx) fun a ha e => by rw [upd_ne σ _ e]; exact h2 a ha e
  rwa [upd_same] at this
theorem Md.lastUp (hm : Md n σ s v st sm) (hi : i < n) (h : σ i = 4 ∨ σ i = 3 ∨ σ i = 2) : Md n (upd σ i 1) s v 0 1 := by
  obtain ⟨h1, h2, _⟩ := hm.isLast hi h
  exact .sema h1 fun a ha => by
    by_cases e : a = i
    · subst e; exact upd_same ..
    · rw [upd_ne σ _ e]; exact h2 a ha e
end
section
variable [Payload] {ph : Ph} {gs : Array Goroutine} {w w' : World} {t : Trace} {D : Nat → WS}
theorem bk_ok {k : Nat} {D : Nat → WS} {fn : FuncId} {pos : String} {es : Array Event} (h : ∀ e ∈ es, Bk ph.Wg e) : ∀ op ∈ MemOp.ofEvents k fn pos es, OkW (ShP ph) (OwnP ph D) (RdP ph) k op := by
  intro op hop
  obtain ⟨e, he, rfl⟩ := Go.Conc.mem_ofEvents hop
  refine ⟨rfl, fun x hx => ?_⟩
  rcases h e he with h1 | h1 | ⟨a, wr, rfl, ha⟩
  · simp only [ofEvent_loc_mark h1] at hx; cases hx
  · simp only [ofEvent_loc_mark h1] at hx; cases hx
  · simp only [ofEvent_cell, MemAct.touch?, Option.some.injEq] at hx
    subst hx
    exact .inl ⟨.inr ha, by simp, by simp⟩
theorem bk_low {B : Nat} {es : Array Event} (h : ∀ e ∈ es, Bk ph.Wg e) (hB : ph.Wg < B) : ∀ e ∈ es, (MemAct.ofEvent e).low B := by
  intro e he
  rcases h e he with h1 | h1 | ⟨a, wr, rfl, ha⟩
  · rw [ofEvent_loc_mark h1]; trivial
  · rw [ofEvent_loc_mark h1]; trivial
  · rw [ofEvent_cell]
    show a.block < B
    rw [ha]; exact hB
theorem bk_norel {k : Nat} {fn : FuncId} {pos : String} {es : Array Event} {a : Addr} (h : ∀ e ∈ es, Bk ph.Wg e) : ∀ op ∈ MemOp.ofEvents k fn pos es, op.act ≠ .mark (.release a) := by
  intro op hop e2
  obtain ⟨e, he, rfl⟩ := Go.Conc.mem_ofEvents hop
  rcases h e he with h1 | h1 | ⟨a, wr, rfl, ha⟩
  · simp only [ofEvent_loc_mark h1] at e2; cases e2
  · simp only [ofEvent_loc_mark h1] at e2; cases e2
  · simp only [ofEvent_cell] at e2; cases e2
theorem WgLive.lt {ty : TypeId} {Wg : Nat} {w : World} (h : WgLive ty Wg w) : Wg < w.heap.size := by
  obtain ⟨st, sm, h⟩ := h
  unfold WgAt at h
  exact (Array.getElem?_eq_some_iff.1 h).1
theorem Com.bookW (hG : Geo ph) (h : Com ph gs w t D) {k : Nat} (hk0 : ph.s0 ≤ k) (hk : k < gs.size) {gk g' : Goroutine} {x' : WS} {fn : FuncId} {pos : String} {es : Array Event}
    (hAs : Aside ph.Wg w w') (hl : WgLive ph.ty ph.Wg w → WgLive ph.ty ph.Wg w') (hob : x'.ob = (D k).ob) (hbx : x'.bx = (D k).bx) (h8 : x'.stage ≠ 8) (hsit : Sit ph k x' x'.stage g' w' (deafBehind (Deaf t k) es))
    (hrcd : Rec ph k (D k) w) (hAR : x'.AR = (D k).AR) (hro : x'.row = (D k).row) (hrel : x'.stage ≤ 6 → ∃ r, RelBy (stA ph.Wg) (t ++ MemOp.ofEvents k fn pos es) k r) (hok : ∀ op ∈ MemOp.ofEvents k fn pos es, OkW (ShP ph) (OwnP ph (upd D k x')) (RdP ph) k op) (hnr : ∀ op ∈ MemOp.ofEvents k fn pos es, op.act ≠ .mark (.release (stA ph.Wg)))
    (hlow : ∀ e ∈ es, (MemAct.ofEvent e).low w'.heap.size) :
    Com ph ((gs.map (woken ph.P gk g' w')).setIfInBounds k g') w' (t ++ MemOp.ofEvents k fn pos es) (upd D k x') := by
  have hCW := hG.CW
  have hs1 := h.s1
  have hblk : ∀ b, b ≠ ph.Wg → w'.heap[b]? = w.heap[b]? := fun b hb => hAs.block b hb
  have hlt : ∀ j b, (D j).ob b → b ≠ ph.Wg := fun j b hb e => by have := (h.obl j b hb).1; unfold Ph.N0 at this; omega
  have hA := h.apart hG
  refine h.stepK hk (fun j hj => upd_ne D _ hj) hAs.os hAs.output (Nat.le_of_eq hAs.size.symm) (fun b _ _ hb => hblk b hb) (fun j _ b hb => hblk b (hlt j b hb)) hl ?_ (fun j _ _ i _ => Go.ConcN.cell_of_block (hblk ph.C (by omega)) _) (fun _ => ?_) (fun _ h => by omega) (fun _ _ => ?_) (fun _ => ?_) (fun _ => ?_) (fun h => by omega) (fun b hb => ?_) ?_ hlow
  · intro hn0
    obtain ⟨cs, h1, h2⟩ := h.cells hn0
    exact ⟨cs, (hblk ph.C (by omega)).trans h1, h2⟩
  · rw [upd_same, Deaf_own]; exact hsit
  · rw [upd_same]
    refine ⟨by rw [hAR]; exact hrcd.sees.still hAs.os hAs.output (Nat.le_of_eq hAs.size.symm) fun b hb => hblk b fun e => hrcd.noWg (e ▸ hb), by rw [hAR]; exact hrcd.rds, by rw [hAR]; exact hrcd.noC, by rw [hAR]; exact hrcd.noWg, by rw [hro, hAR]; exact hrcd.out, by rw [hro]; exact hrcd.len, fun j v hj => ?_, by rw [hAR, hob]; exact hrcd.ob, fun e => absurd e h8, fun e => absurd e h8, by rw [hAR, hbx]; exact hrcd.nobx, by rw [hAR]; exact hrcd.low0⟩
    · rw [hro] at hj
      exact (Go.ConcN.cell_of_block (hblk ph.C (by omega)) _).trans (hrcd.laid j v hj)
  · rw [upd_same]; exact hrel
  · rw [upd_same, hob, hbx]; exact h.bxo k hk0 hk
  · rw [upd_same, hob] at hb
    exact ⟨(h.obl k b hb).1, by rw [hAs.size]; exact (h.obl k b hb).2, fun j hj hb' => h.oba j k b hj hb' hb⟩
  · refine CJ.appW (apart_of hG (fun j b hb => ?_) fun j j' b hne hb hb' => ?_) (h.growCT (fun b hb => by rw [hob]; exact hb) fun b hb => .inl (by rw [← hob]; exact hb)) hk0 hk hok hnr
    · by_cases e : j = k
      · subst e; rw [upd_same, hob] at hb; exact (h.obl _ b hb).1
      · rw [upd_ne D _ e] at hb; exact (h.obl _ b hb).1
    · have key : ∀ j b, (upd D k x' j).ob b → (D j).ob b := fun j b hb => by
        by_cases e : j = k
        · subst e; rw [upd_same, hob] at hb; exact hb
        · rw [upd_ne D _ e] at hb; exact hb
      exact h.oba j j' b hne (key _ _ hb) (key _ _ hb')
end
end Go.Dw.J
end
section
namespace Go.Dw.J
open Go.Dw Go.RowKit
open Go.Conc (G crowd Goes Deaf QuitsD woken awake woken_run woken_quitsD Aside Deaf_other Deaf_own)
open Go.ConcR (KK WgAt stA smA Payload DC0 Bk ofEvent_cell ofEvent_loc_mark bk_of_mute rd wr mk)
open Go.ConcN (RW AtR0 AtK1 AtD1 AtD2 AtD3 AtD4 WgLive Has RelBy PayAt sumTo sumTo_congr le_sumTo sumTo_upd upd upd_same upd_ne bk_cell)
open Go.CJ (CJ OkW Ok0)
set_option linter.unusedVariables false
set_option linter.unusedSimpArgs false
set_option linter.unusedSectionVars false
section
variable [Payload]
def σf (ph : Ph) (N : Nat) (D : Nat → WS) (i : Nat) : Nat := if ph.s0 + i < N then (D (ph.s0 + i)).stage else 9
structure Sta (ph : Ph) (gs : Array Goroutine) (w : World) (t : Trace) (D : Nat → WS) (s v : Nat) : Prop where
  com : Com ph gs w t D
  md : ∃ st sm, WgAt ph.ty ph.Wg w st sm ∧ Md ph.n (σf ph gs.size D) s v st sm
def WkStep (ph : Ph) (gs : Array Goroutine) (w : World) (t : Trace) (D : Nat → WS) (s v k : Nat) (gk : Goroutine) : Prop :=
  ∃ g' w' es x', stepG ph.P false gk w = .go g' w' es ∧ Sta ph ((gs.map (woken ph.P gk g' w')).setIfInBounds k g') w' (t ++ MemOp.ofEvents k gk.frame.fn gk.frame.place es) (upd D k x') s v ∧ Lo (x'.stage, x'.tr) ((D k).stage, (D k).tr) ∧
    w'.os = w.os ∧ w'.output = w.output ∧ w.heap.size ≤ w'.heap.size ∧ (∀ b, b < w.heap.size → b ≠ ph.C → b ≠ ph.Wg → ¬ (D k).ob b → w'.heap[b]? = w.heap[b]?) ∧ (∀ b, x'.ob b → (D k).ob b ∨ w.heap.size ≤ b) ∧
    ((∃ st, WgAt ph.ty ph.Wg w' st 1) → (∃ st, WgAt ph.ty ph.Wg w st 1) ∨ (mayWake ph.P gk = true ∧ g'.status = .running))
variable {ph : Ph} {gs : Array Goroutine} {w w' : World} {t : Trace} {D : Nat → WS} {s v k : Nat} {gk g' : Goroutine} {es : Array Event} {x' : WS} {st sm st' sm' : Int}
theorem σf_upd {N : Nat} (h0 : ph.s0 ≤ k) (hk : k < N) : σf ph N (upd D k x') = upd (σf ph N D) (k - ph.s0) x'.stage := by
  funext i
  unfold σf
  by_cases e : i = k - ph.s0
  · subst e
    rw [upd_same, show ph.s0 + (k - ph.s0) = k by omega, if_pos hk, upd_same]
  · rw [upd_ne _ _ e]
    split
    · rw [upd_ne D _ (by omega)]
    · rfl
theorem σf_old {N : Nat} (h0 : k < ph.s0) : σf ph N (upd D k x') = σf ph N D := by
  funext i
  unfold σf
  split
  · rw [upd_ne D _ (by omega)]
  · rfl
theorem σf_at {N : Nat} (h0 : ph.s0 ≤ k) (hk : k < N) : σf ph N D (k - ph.s0) = (D k).stage := by
  unfold σf
  rw [show ph.s0 + (k - ph.s0) = k by omega, if_pos hk]
theorem wk_book (hG : Geo ph) (h : Sta ph gs w t D s v) (h0 : ph.s0 ≤ k) (hk : k < gs.size) (hgo : stepG ph.P false gk w = .go g' w' es) (hAs : Aside ph.Wg w w') (hwg : WgAt ph.ty ph.Wg w' st' sm') (hob : x'.ob = (D k).ob) (hbx : x'.bx = (D k).bx) (hAR : x'.AR = (D k).AR) (hro : x'.row = (D k).row) (h8 : x'.stage ≠ 8)
    (hsit : Sit ph k x' x'.stage g' w' (deafBehind (Deaf t k) es)) (hrcd : Rec ph k (D k) w) (hrel : x'.stage ≤ 6 → ∃ r, RelBy (stA ph.Wg) (t ++ MemOp.ofEvents k gk.frame.fn gk.frame.place es) k r) (hok : ∀ op ∈ MemOp.ofEvents k gk.frame.fn gk.frame.place es, OkW (ShP ph) (OwnP ph (upd D k x')) (RdP ph) k op)
    (hnr : ∀ op ∈ MemOp.ofEvents k gk.frame.fn gk.frame.place es, op.act ≠ .mark (.release (stA ph.Wg))) (hlow : ∀ e ∈ es, (MemAct.ofEvent e).low w'.heap.size) (hmd : Md ph.n (upd (σf ph gs.size D) (k - ph.s0) x'.stage) s v st' sm') (hlo : Lo (x'.stage, x'.tr) ((D k).stage, (D k).tr))
    (hwk : sm' = 1 → (∃ st, WgAt ph.ty ph.Wg w st 1) ∨ (mayWake ph.P gk = true ∧ g'.status = .running)) : WkStep ph gs w t D s v k gk := by
  have hcom := h.com.bookW hG h0 hk (gk := gk) (x' := x') (fn := gk.frame.fn) (pos := gk.frame.place) hAs (fun _ => ⟨_, _, hwg⟩) hob hbx h8 hsit hrcd hAR hro hrel hok hnr hlow
  refine ⟨g', w', es, x', hgo, ⟨hcom, st', sm', hwg, ?_⟩, hlo, hAs.os, hAs.output, Nat.le_of_eq hAs.size.symm, fun b _ _ hb _ => hAs.block b hb, fun b hb => .inl (by rw [← hob]; exact hb), fun ⟨st2, h2⟩ => hwk (hwg.unique h2).2⟩
  rw [show ((gs.map (woken ph.P gk g' w')).setIfInBounds k g').size = gs.size by simp, σf_upd h0 hk]
  exact hmd
theorem wk_bk (hG : Geo ph) (h : Sta ph gs w t D s v) (h0 : ph.s0 ≤ k) (hk : k < gs.size) (hgo : stepG ph.P false gk w = .go g' w' es) (hAs : Aside ph.Wg w w') (hwg : WgAt ph.ty ph.Wg w' st' sm') {s' m' : Nat} {d : Nat} (hd : Deaf t k = d) (h7 : (D k).stage ≤ 6) (h8 : s' ≤ 6) (hs : ∀ x' : WS, x' = { D k with stage := s', tr := chain m' } → Sit ph k x' s' g' w' (deafBehind d es))
    (hbk : ∀ e ∈ es, Bk ph.Wg e) (hdf : ∀ jx e, es[jx]? = some e → (MemAct.ofEvent e).touch? = none ∨ 0 < deafBehind d (es.extract 0 jx))
    (hmd : Md ph.n (upd (σf ph gs.size D) (k - ph.s0) s') s v st' sm') (hlo : s' < (D k).stage ∨ (s' = (D k).stage ∧ (D k).tr = chain (m' + 1)))
    (hwk : sm' = 1 → (∃ st, WgAt ph.ty ph.Wg w st 1) ∨ (mayWake ph.P gk = true ∧ g'.status = .running)) : WkStep ph gs w t D s v k gk := by
  have hWlt := WgLive.lt (h.com.live)
  refine wk_book hG h h0 hk (x' := { D k with stage := s', tr := chain m' }) hgo hAs hwg rfl rfl rfl rfl (by show s' ≠ 8; omega) (by rw [hd]; exact hs _ rfl) (h.com.rcd k h0 hk (.inl (by omega))) (fun _ => ?_) (bk_ok hbk) (bk_norel hbk) (bk_low hbk (by rw [hAs.size]; exact hWlt)) hmd ?_ hwk
  · obtain ⟨r, hr⟩ := h.com.rel k h0 hk h7
    exact ⟨r, hr.book hd _ _ hbk hdf⟩
  · rcases hlo with h1 | ⟨h1, h2⟩
    · exact Lo.stage h1
    · show Lo (s', chain m') _
      rw [h2, h1]
      exact Lo.kid (chain_kid m')
theorem wk_idle (hG : Geo ph) (h : Sta ph gs w t D s v) (h0 : ph.s0 ≤ k) (hk : k < gs.size) (hgo : stepG ph.P false gk w = .go g' w #[]) {m' d : Nat} (hd : Deaf t k = d) (h7 : (D k).stage ≤ 6) (htr : (D k).tr = chain (m' + 1)) (hs : ∀ x' : WS, x' = { D k with tr := chain m' } → Sit ph k x' (D k).stage g' w d) : WkStep ph gs w t D s v k gk := by
  obtain ⟨st, sm, h1, h2⟩ := h.md
  refine wk_bk hG h h0 hk hgo (.refl _ w) h1 hd h7 h7 (m' := m') (fun x' e => hs x' (by rw [e])) (by simp) (by simp) ?_ (.inr ⟨rfl, htr⟩) fun e => .inl ⟨st, e ▸ h1⟩
  refine h2.congr fun i hi => ?_
  by_cases e : i = k - ph.s0
  · subst e; rw [upd_same, σf_at h0 hk]
  · rw [upd_ne _ _ e]
end
end Go.Dw.J
end
section
namespace Go.Dw.J
open Go.Dw Go.RowKit
open Go.Conc (G crowd Goes Deaf QuitsD woken awake woken_run woken_quitsD Aside Deaf_other Deaf_own aside_setCell semEvents)
open Go.ConcR (KK WgAt stA smA Payload DC0 Bk ofEvent_cell ofEvent_loc_mark bk_of_mute rd wr mk)
open Go.ConcN (RW AtR0 AtK1 AtD1 AtD2 AtD3 AtD4 WgLive Has RelBy PayAt sumTo sumTo_congr le_sumTo sumTo_upd upd upd_same upd_ne bk_cell)
open Go.CJ (CJ OkW Ok0)
set_option linter.unusedVariables false
set_option linter.unusedSimpArgs false
set_option linter.unusedSectionVars false
section
variable [Payload] {ph : Ph} {gs : Array Goroutine} {w w' : World} {t : Trace} {D : Nat → WS} {s v k : Nat} {gk g' : Goroutine} {es : Array Event} {x' : WS} {st sm st' sm' : Int}
theorem Com.lt (h : Com ph gs w t D) (h0 : ph.s0 ≤ k) (hk : k < gs.size) : k - ph.s0 < ph.n := by have := h.szu; omega
theorem wk_k1 (hG : Geo ph) (h : Sta ph gs w t D s v) (h0 : ph.s0 ≤ k) (hk : k < gs.size) (hd : Deaf t k = 0) (h6 : (D k).stage = 6) {m : Nat} (htr : (D k).tr = chain m) (hg : Goes ph.P false (RW ph.ty ph.Wg (D k).bx 1 0 0) DC0 (AtK1 ph.P ph.ty ph.Wg (D k).bx 1 0 1) m gk w) : WkStep ph gs w t D s v k gk := by
  rcases Goes.cases hg with hstop | ⟨m', rfl, hstep⟩
  · obtain ⟨_, g', hgo, m₂, hk'⟩ := hstop w (RW.refl w)
    obtain ⟨st, sm, h1, h2⟩ := h.md
    refine wk_bk hG h h0 hk hgo (.refl _ w) h1 hd (by omega) (s' := 5) (m' := m₂) (by omega) (fun x' e => by subst e; exact .d1 rfl hk') (by intro e he; simp at he; subst he; exact .inl rfl) (by intro jx e he; exact .inl (by have := Array.mem_of_getElem? he; simp at this; subst this; rfl)) ?_ (.inl (by omega)) fun e => .inl ⟨st, e ▸ h1⟩
    exact h2.counted (h.com.lt h0 hk) (by rw [σf_at h0 hk]; omega) (by rw [σf_at h0 hk]; omega) (by omega)
  · obtain ⟨g', w', es, hgo, ⟨rfl, rfl⟩, hg'⟩ := hstep w (RW.refl w)
    exact wk_idle hG h h0 hk hgo hd (by omega) htr fun x' e => by subst e; rw [h6]; exact .k1 rfl hg'
theorem wk_d1 (hG : Geo ph) (hn : ph.n < 2147483648) (h : Sta ph gs w t D s v) (h0 : ph.s0 ≤ k) (hk : k < gs.size) (hd : Deaf t k = 1) (h5 : (D k).stage = 5) {m : Nat} (htr : (D k).tr = chain m) (hg : Goes ph.P false (RW ph.ty ph.Wg (D k).bx 1 0 0) DC0 (AtD1 ph.P ph.ty ph.Wg (D k).bx 1 0 1) m gk w) : WkStep ph gs w t D s v k gk := by
  rcases Goes.cases hg with hstop | ⟨m', rfl, hstep⟩
  · obtain ⟨_, hall⟩ := hstop w (RW.refl w)
    obtain ⟨st, sm, h1, h2⟩ := h.md
    obtain ⟨rfl, v0, wt, hwt, hv0, rfl, hl, hq⟩ := h2.add (h.com.lt h0 hk) (by rw [σf_at h0 hk]; omega) (by rw [σf_at h0 hk]; omega)
    have bk2 : ∀ e ∈ #[rd (stA ph.Wg), wr (stA ph.Wg)], Bk ph.Wg e := by intro e he; simp at he; rcases he with rfl | rfl <;> exact bk_cell _ _ rfl
    have df2 : ∀ jx e, (#[rd (stA ph.Wg), wr (stA ph.Wg)] : Array Event)[jx]? = some e → (MemAct.ofEvent e).touch? = none ∨ 0 < deafBehind 1 ((#[rd (stA ph.Wg), wr (stA ph.Wg)] : Array Event).extract 0 jx) := by
      intro jx e he
      match jx, he with
      | 0, _ => exact .inr (by simp [deafBehind])
      | 1, _ => exact .inr (by simp [deafBehind, rd])
      | jx + 2, he => simp at he
    obtain ⟨g', hgo, k1, k2⟩ := hall v0 wt hwt (by omega) h1
    by_cases hc : v0 = 0 ∧ wt = 1
    · obtain ⟨m₂, hk'⟩ := k1 hc
      exact wk_bk hG h h0 hk hgo (aside_setCell w (stA ph.Wg) _) (h1.setSt _) hd (by omega) (s' := 4) (m' := m₂) (by omega) (fun x' e => by subst e; exact .d2 rfl hk') bk2 df2 (hl hc) (.inl (by omega)) fun e => by simp at e
    · obtain ⟨q, hq'⟩ := k2 hc
      exact wk_bk hG h h0 hk hgo (aside_setCell w (stA ph.Wg) _) (h1.setSt _) hd (by omega) (s' := 1) (m' := q) (by omega) (fun x' e => by subst e; exact .quit rfl hq') bk2 df2 (hq hc) (.inl (by omega)) fun e => by simp at e
  · obtain ⟨g', w', es, hgo, ⟨rfl, rfl⟩, hg'⟩ := hstep w (RW.refl w)
    exact wk_idle hG h h0 hk hgo hd (by omega) htr fun x' e => by subst e; rw [h5]; exact .d1 rfl hg'
theorem wk_d2 (hG : Geo ph) (h : Sta ph gs w t D s v) (h0 : ph.s0 ≤ k) (hk : k < gs.size) (hd : Deaf t k = 1) (h4 : (D k).stage = 4) {m : Nat} (htr : (D k).tr = chain m) (hg : Goes ph.P false (RW ph.ty ph.Wg (D k).bx 1 0 0) DC0 (AtD2 ph.P ph.ty ph.Wg (D k).bx 1 0 1) m gk w) : WkStep ph gs w t D s v k gk := by
  rcases Goes.cases hg with hstop | ⟨m', rfl, hstep⟩
  · obtain ⟨_, hall⟩ := hstop w (RW.refl w)
    obtain ⟨st, sm, h1, h2⟩ := h.md
    have hσ := σf_at (ph := ph) (D := D) h0 hk
    have hlast : σf ph gs.size D (k - ph.s0) = 4 ∨ σf ph gs.size D (k - ph.s0) = 3 ∨ σf ph gs.size D (k - ph.s0) = 2 := by omega
    obtain ⟨_, _, e1, e2⟩ := h2.isLast (h.com.lt h0 hk) hlast
    rw [if_neg (by omega)] at e1
    subst e1 e2
    obtain ⟨g', hgo, m₂, hk'⟩ := hall h1
    refine wk_bk hG h h0 hk hgo (.refl _ w) h1 hd (by omega) (s' := 3) (m' := m₂) (by omega) (fun x' e => by subst e; exact .d3 rfl hk') (by intro e he; simp at he; subst he; exact bk_cell _ _ rfl) (by intro jx e he; exact .inr (by cases jx with | zero => simp [deafBehind] | succ j => simp at he)) ?_ (.inl (by omega)) fun e => by simp at e
    have := h2.lastTo (h.com.lt h0 hk) hlast (x := 3) (by omega)
    simpa using this
  · obtain ⟨g', w', es, hgo, ⟨rfl, rfl⟩, hg'⟩ := hstep w (RW.refl w)
    exact wk_idle hG h h0 hk hgo hd (by omega) htr fun x' e => by subst e; rw [h4]; exact .d2 rfl hg'
theorem wk_d3 (hG : Geo ph) (h : Sta ph gs w t D s v) (h0 : ph.s0 ≤ k) (hk : k < gs.size) (hd : Deaf t k = 1) (h3 : (D k).stage = 3) {m : Nat} (htr : (D k).tr = chain m) (hg : Goes ph.P false (RW ph.ty ph.Wg (D k).bx 1 0 0) DC0 (AtD3 ph.P ph.ty ph.Wg (D k).bx 1 0 1) m gk w) : WkStep ph gs w t D s v k gk := by
  rcases Goes.cases hg with hstop | ⟨m', rfl, hstep⟩
  · obtain ⟨_, hall⟩ := hstop w (RW.refl w)
    obtain ⟨st, sm, h1, h2⟩ := h.md
    have hσ := σf_at (ph := ph) (D := D) h0 hk
    have hlast : σf ph gs.size D (k - ph.s0) = 4 ∨ σf ph gs.size D (k - ph.s0) = 3 ∨ σf ph gs.size D (k - ph.s0) = 2 := by omega
    obtain ⟨_, _, e1, e2⟩ := h2.isLast (h.com.lt h0 hk) hlast
    rw [if_neg (by omega)] at e1
    subst e1 e2
    obtain ⟨g', hgo, m₂, hk'⟩ := hall h1
    refine wk_bk hG h h0 hk hgo (aside_setCell w (stA ph.Wg) _) (h1.setSt _) hd (by omega) (s' := 2) (m' := m₂) (by omega) (fun x' e => by subst e; exact .d4 rfl hk') (by intro e he; simp at he; subst he; exact bk_cell _ _ rfl) (by intro jx e he; exact .inr (by cases jx with | zero => simp [deafBehind] | succ j => simp at he)) ?_ (.inl (by omega)) fun e => by simp at e
    have := h2.lastTo (h.com.lt h0 hk) hlast (x := 2) (by omega)
    simpa using this
  · obtain ⟨g', w', es, hgo, ⟨rfl, rfl⟩, hg'⟩ := hstep w (RW.refl w)
    exact wk_idle hG h h0 hk hgo hd (by omega) htr fun x' e => by subst e; rw [h3]; exact .d3 rfl hg'
theorem wk_d4 (hG : Geo ph) (h : Sta ph gs w t D s v) (h0 : ph.s0 ≤ k) (hk : k < gs.size) (hd : Deaf t k = 1) (h2 : (D k).stage = 2) {m : Nat} (htr : (D k).tr = chain m) (hg : Goes ph.P false (RW ph.ty ph.Wg (D k).bx 1 0 0) DC0 (AtD4 ph.P ph.ty ph.Wg) m gk w) : WkStep ph gs w t D s v k gk := by
  rcases Goes.cases hg with hstop | ⟨m', rfl, hstep⟩
  · obtain ⟨_, hmw, hall⟩ := hstop w (RW.refl w)
    obtain ⟨st, sm, h1, hm⟩ := h.md
    have hσ := σf_at (ph := ph) (D := D) h0 hk
    have hlast : σf ph gs.size D (k - ph.s0) = 4 ∨ σf ph gs.size D (k - ph.s0) = 3 ∨ σf ph gs.size D (k - ph.s0) = 2 := by omega
    obtain ⟨_, _, e1, e2⟩ := hm.isLast (h.com.lt h0 hk) hlast
    rw [if_pos (by omega)] at e1
    subst e1 e2
    obtain ⟨g', hgo, q, hq⟩ := hall h1
    have hrun' : g'.status = .running := by
      cases q with
      | zero => exact absurd hq.2 (by decide)
      | succ q => exact hq.elim (fun x => absurd x.2 (by decide)) (fun x => x.1)
    refine wk_bk hG h h0 hk hgo (aside_setCell w (smA ph.Wg) _) (h1.setSm 1) hd (by omega) (s' := 1) (m' := q) (by omega) (fun x' e => by subst e; exact .quit rfl (by simpa [deafBehind, semEvents] using hq)) ?_ ?_ (hm.lastUp (h.com.lt h0 hk) hlast) (.inl (by omega)) fun _ => .inr ⟨hmw, hrun'⟩
    · intro e he
      simp [semEvents] at he
      rcases he with rfl | rfl | rfl | rfl
      · exact .inl rfl
      · exact bk_cell _ _ rfl
      · exact bk_cell _ _ rfl
      · exact .inr (.inl rfl)
    · intro jx e he
      match jx, he with
      | 0, he => simp [semEvents] at he; subst he; exact .inl rfl
      | 1, _ => exact .inr (by simp [deafBehind, semEvents])
      | 2, _ => exact .inr (by simp [deafBehind, semEvents])
      | 3, he => simp [semEvents] at he; subst he; exact .inl rfl
      | jx + 4, he => simp [semEvents] at he
  · obtain ⟨g', w', es, hgo, ⟨rfl, rfl⟩, hg'⟩ := hstep w (RW.refl w)
    exact wk_idle hG h h0 hk hgo hd (by omega) htr fun x' e => by subst e; rw [h2]; exact .d4 rfl hg'
end
end Go.Dw.J
end
section
namespace Go.Dw.J
open Go.Dw Go.RowKit
open Go.Conc (G crowd Goes Deaf QuitsD woken awake woken_run woken_quitsD Aside Deaf_other Deaf_own aside_setCell semEvents)
open Go.ConcR (KK WgAt stA smA Payload DC0 Bk ofEvent_cell ofEvent_loc_mark bk_of_mute rd wr mk)
open Go.ConcN (RW AtR0 AtK1 AtD1 AtD2 AtD3 AtD4 WgLive Has RelBy PayAt sumTo sumTo_congr le_sumTo sumTo_upd upd upd_same upd_ne bk_cell)
open Go.CJ (CJ OkW Ok0)
set_option linter.unusedVariables false
set_option linter.unusedSimpArgs false
set_option linter.unusedSectionVars false
section
variable [Payload] {ph : Ph} {gs : Array Goroutine} {w w' : World} {t : Trace} {D : Nat → WS} {s v k : Nat} {gk g' : Goroutine} {es : Array Event} {x' : WS} {st sm st' sm' : Int}
theorem wk_r0 (hG : Geo ph) (h : Sta ph gs w t D s v) (h0 : ph.s0 ≤ k) (hk : k < gs.size) (hd : Deaf t k = 0) (h7 : (D k).stage = 7) {m : Nat} (htr : (D k).tr = chain m) (hg : Goes ph.P false (RW ph.ty ph.Wg (D k).bx 1 0 0) DC0 (AtR0 ph.P ph.ty ph.Wg (D k).bx 1 0 1 (D k).val) m gk w) : WkStep ph gs w t D s v k gk := by
  obtain ⟨st, sm, h1, h2⟩ := h.md
  have hWlt := WgLive.lt h.com.live
  have hrcd := h.com.rcd k h0 hk (.inl (by omega))
  rcases Goes.cases hg with hstop | ⟨m', rfl, hstep⟩
  · obtain ⟨_, _, g', hgo, m₂, hk'⟩ := hstop w (RW.refl w)
    refine wk_book hG h h0 hk (x' := { D k with stage := 6, tr := chain m₂ }) hgo (.refl _ w) h1 rfl rfl rfl rfl (by simp) ?_ hrcd (fun _ => ⟨t.size, RelBy.new hd _ _⟩) (fun op hop => ?_) (fun op hop e2 => ?_) (fun e he => ?_) (h2.counted (h.com.lt h0 hk) (by rw [σf_at h0 hk]; omega) (by rw [σf_at h0 hk]; omega) (by show 5 ≤ 6; omega)) (Lo.stage (by show 6 < _; omega)) fun e => .inl ⟨st, e ▸ h1⟩
    · rw [hd]; exact .k1 rfl hk'
    · obtain ⟨e, he, rfl⟩ := Go.Conc.mem_ofEvents hop
      simp at he; subst he
      exact ⟨rfl, fun x hx => by simp [mk, MemAct.ofEvent, MemAct.touch?] at hx⟩
    · obtain ⟨e, he, rfl⟩ := Go.Conc.mem_ofEvents hop
      simp at he; subst he
      simp [mk, MemAct.ofEvent] at e2
    · simp at he; subst he
      exact hWlt
  · obtain ⟨g', w', es, hgo, ⟨rfl, rfl⟩, hg'⟩ := hstep w (RW.refl w)
    refine wk_book hG h h0 hk (x' := { D k with tr := chain m' }) hgo (.refl _ _) h1 rfl rfl rfl rfl (by show (D k).stage ≠ 8; omega) ?_ hrcd (fun e => absurd e (by show ¬ (D k).stage ≤ 6; omega)) (fun op hop => ?_) (fun op hop e2 => ?_) (fun e he => by simp at he) (h2.congr fun i hi => ?_) ?_ fun e => .inl ⟨st, e ▸ h1⟩
    · rw [hd]; show Sit _ _ _ (D k).stage _ _ _; rw [h7]; exact .r0 rfl hg'
    · obtain ⟨e, he, rfl⟩ := Go.Conc.mem_ofEvents hop
      simp at he
    · obtain ⟨e, he, rfl⟩ := Go.Conc.mem_ofEvents hop
      simp at he
    · by_cases e : i = k - ph.s0
      · subst e; rw [upd_same, σf_at h0 hk]
      · rw [upd_ne _ _ e]
    · show Lo ((D k).stage, chain m') _
      rw [htr]; exact Lo.kid (chain_kid m')
theorem wk_quit (hG : Geo ph) (h : Sta ph gs w t D s v) (h0 : ph.s0 ≤ k) (hk : k < gs.size) (hrun : gk.status = .running) (h1 : (D k).stage = 1) {m : Nat} (htr : (D k).tr = chain m) (hq : QuitsD ph.P m (Deaf t k) gk) : WkStep ph gs w t D s v k gk := by
  obtain ⟨st, sm, h2, h3⟩ := h.md
  cases m with
  | zero => rw [hq.1] at hrun; cases hrun
  | succ q =>
    rcases hq with ⟨hf, _⟩ | ⟨_, g', es, hmute, hstep, hq⟩
    · rw [hf] at hrun; cases hrun
    · have hbk : ∀ e ∈ es, Bk ph.Wg e := fun e he => bk_of_mute (hmute e he)
      refine wk_bk hG h h0 hk (hstep w) (.refl _ w) h2 rfl (by omega) (s' := 1) (m' := q) (by omega) (fun x' e => by subst e; exact .quit rfl hq) hbk (fun jx e he => .inl (Go.Conc.touch_mute (hmute e (Array.mem_of_getElem? he)))) (h3.congr fun i hi => ?_) (.inr ⟨h1.symm, htr⟩) fun e => .inl ⟨st, e ▸ h2⟩
      by_cases e : i = k - ph.s0
      · subst e; rw [upd_same, σf_at h0 hk, h1]
      · rw [upd_ne _ _ e]
theorem wk_old (hG : Geo ph) (h : Sta ph gs w t D s v) (h1 : 1 ≤ k) (h0 : k < ph.s0) (hrun : gk.status = .running) {m : Nat} (htr : (D k).tr = chain m) (hq : QuitsD ph.P m (Deaf t k) gk) : WkStep ph gs w t D s v k gk := by
  obtain ⟨st, sm, h2, h3⟩ := h.md
  have hk : k < gs.size := Nat.lt_of_lt_of_le h0 h.com.szl
  cases m with
  | zero => rw [hq.1] at hrun; cases hrun
  | succ q =>
    rcases hq with ⟨hf, _⟩ | ⟨_, g', es, hmute, hstep, hq⟩
    · rw [hf] at hrun; cases hrun
    · have hst := h.com.old k h1 h0
      have hnb := h.com.nob k (.inl h0)
      refine ⟨g', w, es, { D k with tr := chain q }, hstep w, ⟨h.com.stepK hk (fun j hj => upd_ne D _ hj) rfl rfl (Nat.le_refl _) (fun b _ _ _ => rfl) (fun j _ b _ => rfl) id h.com.cells (fun j _ _ i _ => rfl) (fun _ => ?_) (fun _ _ => ?_) (fun h => by omega) (fun h => by omega) (fun h => by omega) (fun _ b => ?_) (fun b hb => ?_) ?_ (fun e he => Go.Conc.low_mute (hmute e he) _), st, sm, h2, ?_⟩, ?_, rfl, rfl, Nat.le_refl _, fun b _ _ _ _ => rfl, fun b hb => .inl hb, fun hx => .inl hx⟩
      · rw [upd_same, Deaf_own]; show Sit _ _ _ (D k).stage _ _ _; rw [hst]; exact .quit rfl hq
      · rw [upd_same]; exact hst
      · rw [upd_same]; exact hnb b
      · rw [upd_same] at hb; exact absurd hb (hnb b)
      · refine CJ.appMute (h.com.growCT (fun b hb => hb) fun b hb => .inl hb) hk (fun op hop => by obtain ⟨e, _, rfl⟩ := Go.Conc.mem_ofEvents hop; rfl) (fun op hop => by obtain ⟨e, he, rfl⟩ := Go.Conc.mem_ofEvents hop; exact Go.Conc.touch_mute (hmute e he)) (bk_norel (ph := ph) fun e he => bk_of_mute (hmute e he))
      · rw [show ((gs.map (woken ph.P gk g' w)).setIfInBounds k g').size = gs.size by simp, σf_old h0]
        exact h3
      · show Lo ((D k).stage, chain q) _
        rw [htr]; exact Lo.kid (chain_kid q)
end
end Go.Dw.J
end
section
namespace Go.Dw.J
open Go.Dw Go.RowKit
open Go.Conc (G crowd Goes Deaf QuitsD woken awake woken_run woken_quitsD Aside Deaf_other Deaf_own aside_setCell semEvents)
open Go.ConcR (KK WgAt stA smA Payload DC0 Bk ofEvent_cell ofEvent_loc_mark bk_of_mute rd wr mk)
open Go.ConcN (RW AtR0 AtK1 AtD1 AtD2 AtD3 AtD4 WgLive Has RelBy PayAt sumTo sumTo_congr le_sumTo sumTo_upd upd upd_same upd_ne bk_cell)
open Go.CJ (CJ OkW Ok0)
set_option linter.unusedVariables false
set_option linter.unusedSimpArgs false
set_option linter.unusedSectionVars false
section
variable [Payload] {ph : Ph} {gs : Array Goroutine} {w w' : World} {t : Trace} {D : Nat → WS} {s v k : Nat} {gk g' : Goroutine} {es : Array Event} {x' : WS} {A : World}
theorem evOk_okW {D' : Nat → WS} {fn : FuncId} {pos : String} {e : Event} (hlo : ∀ b, b < ph.N0 → Seen A b → Seen ph.A0 b ∧ b ≠ ph.C ∧ b ≠ ph.Wg ∧ Ro A b) (hob : ∀ b, ph.N0 ≤ b → Seen A b → (D' k).ob b) (h : EvOk A e) : OkW (ShP ph) (OwnP ph D') (RdP ph) k { g := k, fn := fn, pos := pos, act := .ofEvent e } := by
  refine ⟨rfl, fun x hx => ?_⟩
  cases h with
  | read h =>
    rename_i a
    simp [MemAct.ofEvent, MemAct.touch?] at hx; subst hx
    rcases Nat.lt_or_ge a.block ph.N0 with h1 | h1
    · obtain ⟨h2, h3, h4, _⟩ := hlo _ h1 h
      refine .inr (.inr ⟨⟨a.block, rfl, ?_, h3, h2⟩, rfl, by simp⟩)
      unfold Ph.N0 at h1; omega
    · exact .inr (.inl ⟨.inl ⟨a.block, rfl, hob _ h1 h⟩, by simp⟩)
  | write h h2 =>
    rename_i a
    simp [MemAct.ofEvent, MemAct.touch?] at hx; subst hx
    rcases Nat.lt_or_ge a.block ph.N0 with h1 | h1
    · exact absurd (hlo _ h1 h).2.2.2 h2
    · exact .inr (.inl ⟨.inl ⟨a.block, rfl, hob _ h1 h⟩, by simp⟩)
  | obj h h2 =>
    rename_i r wr
    have e : MemAct.ofEvent ⟨.obj r, wr, false⟩ = .access ⟨.obj r, wr, false⟩ := by cases wr <;> rfl
    rw [e] at hx
    simp [MemAct.touch?] at hx; subst hx
    rcases Nat.lt_or_ge r ph.N0 with h1 | h1
    · exact absurd (hlo _ h1 h).2.2.2 h2
    · exact .inr (.inl ⟨.inl ⟨r, rfl, hob _ h1 h⟩, by simp⟩)
  | room => simp [MemAct.ofEvent, MemAct.touch?] at hx
theorem evOk_low {e : Event} {B : Nat} (hB : A.heap.size ≤ B) (h : EvOk A e) : (MemAct.ofEvent e).low B := by
  cases h with
  | read h => exact Nat.lt_of_lt_of_le h.1 hB
  | write h h2 => exact Nat.lt_of_lt_of_le h.1 hB
  | obj h h2 =>
    rename_i r wr
    have e : MemAct.ofEvent ⟨.obj r, wr, false⟩ = .access ⟨.obj r, wr, false⟩ := by cases wr <;> rfl
    rw [e]; exact Nat.lt_of_lt_of_le h.1 hB
  | room => trivial
theorem evOk_norel {e : Event} {a : Addr} (h : EvOk A e) : MemAct.ofEvent e ≠ .mark (.release a) := by
  intro e2
  cases h with
  | read h => simp [MemAct.ofEvent] at e2
  | write h h2 => simp [MemAct.ofEvent] at e2
  | obj h h2 =>
    rename_i r wr
    cases wr <;> simp [MemAct.ofEvent] at e2
  | room => simp [MemAct.ofEvent] at e2
theorem Com.tell (h : Com ph gs w t D) (h0 : ph.s0 ≤ k) (hk : k < gs.size) (hgk : gs[k]? = some gk) (hob : x'.ob = (D k).ob) (hbx : x'.bx = (D k).bx) (hsit : Sit ph k x' x'.stage gk w (Deaf t k)) (hrcd : (x'.stage ≠ 8 ∨ g0 x'.A = 1) → Rec ph k x' w) (hrel : x'.stage ≤ 6 → ∃ r, RelBy (stA ph.Wg) t k r) : Com ph gs w t (upd D k x') := by
  have ob : ∀ j b, (upd D k x' j).ob b ↔ (D j).ob b := fun j b => by
    by_cases e : j = k
    · subst e; rw [upd_same, hob]
    · rw [upd_ne D _ e]
  have hs1 := h.s1
  refine ⟨h.s1, h.szl, h.szu, fun j h1 h2 => ?_, fun j h1 h2 => ?_, fun j hj b hb => h.nob j hj b ((ob j b).1 hb), fun j h1 h2 h3 => ?_, fun j h1 h2 h3 => ?_, fun j b hb => h.obl j b ((ob j b).1 hb), fun j j' b hne hb hb' => h.oba j j' b hne ((ob j b).1 hb) ((ob j' b).1 hb'), fun j h1 h2 => ?_, h.cells, h.live, h.vis0, h.os0, h.out0, h.growCT (fun b hb => by rw [hob]; exact hb) (fun b hb => .inl (by rw [← hob]; exact hb)), h.above, h.low, h.same⟩
  · by_cases e : j = k
    · subst e; rw [upd_same]; exact ⟨gk, hgk, hsit⟩
    · rw [upd_ne D _ e]; exact h.wk j h1 h2
  · rw [upd_ne D _ (by omega)]; exact h.old j h1 h2
  · by_cases e : j = k
    · subst e; rw [upd_same] at h3 ⊢; exact hrcd h3
    · rw [upd_ne D _ e] at h3 ⊢; exact h.rcd j h1 h2 h3
  · by_cases e : j = k
    · subst e; rw [upd_same] at h3; exact hrel h3
    · rw [upd_ne D _ e] at h3; exact h.rel j h1 h2 h3
  · rw [ob]
    by_cases e : j = k
    · subst e; rw [upd_same, hbx]; exact h.bxo _ h1 h2
    · rw [upd_ne D _ e]; exact h.bxo j h1 h2
end
end Go.Dw.J
end
section
namespace Go.Dw.J
open Go.Dw Go.RowKit
open Go.Conc (G crowd Goes Deaf QuitsD woken awake woken_run woken_quitsD Aside Deaf_other Deaf_own aside_setCell semEvents)
open Go.ConcR (KK WgAt stA smA Payload DC0 Bk ofEvent_cell ofEvent_loc_mark bk_of_mute rd wr mk)
open Go.ConcN (RW AtR0 AtK1 AtD1 AtD2 AtD3 AtD4 WgLive Has RelBy PayAt sumTo sumTo_congr le_sumTo sumTo_upd upd upd_same upd_ne bk_cell)
open Go.CJ (CJ OkW Ok0)
set_option linter.unusedVariables false
set_option linter.unusedSimpArgs false
set_option linter.unusedSectionVars false
theorem Lo.le {s s' : Nat} {t t' : Tree} (h : Lo (s', t') (s, t)) : s' ≤ s := by
  cases h with
  | left _ _ h => exact Nat.le_of_lt h
  | right _ h => exact Nat.le_refl _
section
variable [Payload] {ph : Ph} {gs : Array Goroutine} {w w' : World} {t : Trace} {D : Nat → WS} {s v k : Nat} {gk g' : Goroutine} {es : Array Event} {x' : WS} {A A' : World}
theorem upd_upd {α : Type} (f : Nat → α) (k : Nat) (x y : α) : upd (upd f k x) k y = upd f k y := by
  funext j
  by_cases e : j = k
  · subst e; rw [upd_same, upd_same]
  · rw [upd_ne _ _ e, upd_ne _ _ e, upd_ne _ _ e]
theorem wk_stop (hG : Geo ph) (h : Sta ph gs w t D s v) (h0 : ph.s0 ≤ k) (hk : k < gs.size) (hgk : gs[k]? = some gk) (hd : Deaf t k = 0) (h8 : (D k).stage = 8) (hS : StopW ph (D k).bx (D k).val gk (D k).A) : WkStep ph gs w t D s v k gk := by
  obtain ⟨st, sm, h1, h2⟩ := h.md
  obtain ⟨hg1, hrun, hall⟩ := hS
  have hr := h.com.rcd k h0 hk (.inr hg1)
  have hHas : Has (D k).bx 0 (D k).val w := by
    have := (hr.box h8).1
    unfold Has
    simp [World.cell?, this]
  obtain ⟨m, hm⟩ := hall w ⟨h.com.live, hHas⟩
  have hrec : Rec ph k { D k with stage := 7, tr := chain m } w := ⟨hr.sees, hr.rds, hr.noC, hr.noWg, hr.out, hr.len, hr.laid, hr.ob, fun e => by simp at e, fun e => by simp at e, hr.nobx, hr.low0⟩
  have hcom := h.com.tell (x' := { D k with stage := 7, tr := chain m }) h0 hk hgk rfl rfl (by rw [hd]; exact .r0 rfl hm) (fun _ => hrec) (fun e => by simp at e)
  have hsta : Sta ph gs w t (upd D k { D k with stage := 7, tr := chain m }) s v := ⟨hcom, st, sm, h1, by
    rw [σf_upd h0 hk]
    exact h2.counted (h.com.lt h0 hk) (by rw [σf_at h0 hk]; omega) (by rw [σf_at h0 hk]; omega) (by show 5 ≤ 7; omega)⟩
  have := wk_r0 (k := k) (gk := gk) hG hsta h0 hk hd (by rw [upd_same]) (m := m) (by rw [upd_same]) (by rw [upd_same]; exact hm)
  obtain ⟨g', w', es, x', k1, k2, k3, k4, k5, k6, k7, k8, k9⟩ := this
  rw [upd_upd] at k2
  rw [upd_same] at k3 k7 k8
  refine ⟨g', w', es, x', k1, k2, ?_, k4, k5, k6, k7, k8, k9⟩
  have := Lo.le k3
  simp only at this
  exact Lo.stage (by omega)
theorem wk_quiet (hG : Geo ph) (h : Sta ph gs w t D s v) (h0 : ph.s0 ≤ k) (hk : k < gs.size) (hd : Deaf t k = 0) (h8 : (D k).stage = 8) (hsees : Sees (D k).A w) (hrds : Rds ph.N0 (D k).A) (hC : ¬ Seen (D k).A ph.C) (hW : ¬ Seen (D k).A ph.Wg) (hg01 : g0 (D k).A = 0 ∨ g0 (D k).A = 1) (hob : ∀ b, ph.N0 ≤ b → Seen (D k).A b → (D k).ob b) (hl0 : ∀ b, b < ph.N0 → Seen (D k).A b → Seen ph.A0 b)
    (hgo : stepG ph.P false gk w = .go g' w' es) (hA' : Sees A' w') (htape : A'.tape = (D k).A.tape) (hT : Turns (D k).A w A' w') (hE : ∀ e ∈ es, EvOk A' e) {A1 : World} (hx : Ext A1 A') (hxt : A'.tape = A1.tape) {tr' : Tree} (hkid : Tree.Kid tr' (D k).tr)
    (hF : FitsW ph k { D k with tr := tr', A := A1, ob := fun b => (D k).ob b ∨ (w.heap.size ≤ b ∧ Seen A' b) } g' A1) : WkStep ph gs w t D s v k gk := by
  obtain ⟨st, sm, h1, h2⟩ := h.md
  have hs1 := h.com.s1
  have hCW := hG.CW
  have hWlt := WgLive.lt h.com.live
  have hN : ph.N0 ≤ w.heap.size := hWlt
  have hWg : w'.heap[ph.Wg]? = w.heap[ph.Wg]? := (hT.hid _ hWlt hW).1
  have hCc : w'.heap[ph.C]? = w.heap[ph.C]? := (hT.hid _ (by omega) hC).1
  have hwg' : WgAt ph.ty ph.Wg w' st sm := h1.of_block hWg
  have hrds' : Rds ph.N0 A' := hrds.turns hN hT
  have hsn : ∀ b, b < w.heap.size → Seen A' b → Seen (D k).A b := fun b hb hs => (hT.grow hs).resolve_right (by omega)
  have g01 : g0 A1 = g0 (D k).A := by unfold g0; rw [← hxt, htape]
  have hoth : ∀ j, j ≠ k → ∀ b, (D j).ob b → w'.heap[b]? = w.heap[b]? := fun j hj b hb => (hT.hid b (h.com.obl j b hb).2 fun hs => h.com.oba j k b hj hb (hob b (h.com.obl j b hb).1 hs)).1
  refine ⟨g', w', es, { D k with tr := tr', A := A1, ob := fun b => (D k).ob b ∨ (w.heap.size ≤ b ∧ Seen A' b) }, hgo, ⟨h.com.stepK hk (fun j hj => upd_ne D _ hj) hT.os hT.output hT.le (fun b hb _ _ => hrds.still hT hN hb) hoth (fun _ => ⟨st, sm, hwg'⟩) ?_ (fun j _ _ i _ => Go.ConcN.cell_of_block hCc _) (fun _ => ?_) (fun _ h => by omega) (fun _ h3 => ?_) (fun _ h3 => ?_) (fun _ => ?_) (fun h => by omega) (fun b hb => ?_) ?_ (fun e he => evOk_low hA'.size (hE e he)), st, sm, hwg', ?_⟩, ?_, hT.os, hT.output, hT.le, fun b hb _ _ hnb => ?_, fun b hb => hb.imp id fun h => h.1, fun ⟨st2, h3⟩ => ?_⟩
  · intro hn0
    obtain ⟨cs, h3, h4⟩ := h.com.cells hn0
    exact ⟨cs, hCc.trans h3, h4⟩
  · rw [upd_same, Deaf_own, hd]
    show Sit _ _ _ (D k).stage _ _ _
    rw [h8, Go.Conc.deafBehind_still fun e he => ?_]
    · refine .go hF (hA'.ext hx) (hrds'.ext' hx) (fun hs => (hT.hid _ (by omega) hC).2 ((Seen.ext hx).2 hs)) (fun hs => (hT.hid _ hWlt hW).2 ((Seen.ext hx).2 hs)) (by show g0 A1 = 0 ∨ g0 A1 = 1; rw [g01]; exact hg01) (fun b hb hs => ?_) (fun b hb hs => ?_)
      · have hs' := (Seen.ext hx).2 hs
        rcases hT.grow hs' with h3 | h3
        · exact .inl (hob b hb h3)
        · exact .inr ⟨h3, hs'⟩
      · exact hl0 b hb (hsn b (by omega) ((Seen.ext hx).2 hs))
    · have := evOk_evL (hE e he) (Nat.le_refl _) (Shun := fun _ => False) fun l b h => h.elim
      exact ⟨this.1.2.1, this.1.2.2.1⟩
  · rw [upd_same] at h3 ⊢
    have hg1 : g0 (D k).A = 1 := by
      rcases h3 with h3 | h3
      · exact absurd h8 h3
      · rw [← g01]; exact h3
    have hr := h.com.rcd k h0 hk (.inr hg1)
    have hfr : ∀ b, b < (D k).AR.heap.size → ¬ Seen (D k).A b := fun b hb hs => by have := hr.fresh h8 b hs; omega
    refine ⟨hr.sees.still hT.os hT.output hT.le fun b hb => (hT.hid b (Nat.lt_of_lt_of_le hb.1 hr.sees.size) (hfr b hb.1)).1, hr.rds, hr.noC, hr.noWg, hr.out, hr.len, fun j v hj => (Go.ConcN.cell_of_block hCc _).trans (hr.laid j v hj), fun b hb hs => .inl (hr.ob b hb hs), fun _ b hs => ?_, fun _ => ?_, hr.nobx, hr.low0⟩
    · rcases hT.grow ((Seen.ext hx).2 hs) with h4 | h4
      · exact hr.fresh h8 b h4
      · exact Nat.le_trans hr.sees.size h4
    · obtain ⟨h4, h5⟩ := hr.box h8
      have h6 := hT.hid (D k).bx (Array.getElem?_eq_some_iff.1 h4).1 h5
      exact ⟨h6.1.trans h4, fun hs => h6.2 ((Seen.ext hx).2 hs)⟩
  · rw [upd_same] at h3
    have : (D k).stage ≤ 6 := h3
    omega
  · rw [upd_same]; exact .inl (h.com.bxo k h0 hk)
  · rw [upd_same] at hb
    rcases hb with hb | ⟨hb, hs⟩
    · exact ⟨(h.com.obl k b hb).1, Nat.lt_of_lt_of_le (h.com.obl k b hb).2 hT.le, fun j hj hb' => h.com.oba j k b hj hb' hb⟩
    · exact ⟨by omega, Nat.lt_of_lt_of_le hs.1 hA'.size, fun j hj hb' => by have := (h.com.obl j b hb').2; omega⟩
  · refine CJ.appW (apart_of hG (fun j b hb => ?_) fun j j' b hne hb hb' => ?_) (h.com.growCT (fun b hb => .inl hb) fun b hb => hb.imp id fun h => h.1) h0 hk (fun op hop => ?_) fun op hop => ?_
    · by_cases e : j = k
      · subst e; rw [upd_same] at hb
        rcases hb with hb | hb
        · exact (h.com.obl _ b hb).1
        · omega
      · rw [upd_ne D _ e] at hb; exact (h.com.obl _ b hb).1
    · have key : ∀ j b, (upd D k { D k with tr := tr', A := A1, ob := fun b => (D k).ob b ∨ (w.heap.size ≤ b ∧ Seen A' b) } j).ob b → (D j).ob b ∨ (j = k ∧ w.heap.size ≤ b) := fun j b hb => by
        by_cases e : j = k
        · subst e; rw [upd_same] at hb; exact hb.imp id fun h => ⟨rfl, h.1⟩
        · rw [upd_ne D _ e] at hb; exact .inl hb
      rcases key _ _ hb with h3 | ⟨h3, h4⟩ <;> rcases key _ _ hb' with h5 | ⟨h5, h6⟩
      · exact h.com.oba j j' b hne h3 h5
      · have := (h.com.obl j b h3).2; omega
      · have := (h.com.obl j' b h5).2; omega
      · omega
    · obtain ⟨e, he, rfl⟩ := Go.Conc.mem_ofEvents hop
      refine evOk_okW (fun b hb hs => ?_) (fun b hb hs => ?_) (hE e he)
      · have h3 := hsn b (by omega) hs
        exact ⟨hl0 b hb h3, fun e => hC (e ▸ h3), fun e => hW (e ▸ h3), (hrds' b hb).resolve_right fun h => h hs⟩
      · rw [upd_same]
        rcases hT.grow hs with h4 | h4
        · exact .inl (hob b hb h4)
        · exact .inr ⟨h4, hs⟩
    · obtain ⟨e, he, rfl⟩ := Go.Conc.mem_ofEvents hop
      exact evOk_norel (hE e he)
  · rw [show ((gs.map (woken ph.P gk g' w')).setIfInBounds k g').size = gs.size by simp, σf_upd h0 hk]
    refine h2.congr fun i hi => ?_
    by_cases e : i = k - ph.s0
    · subst e; rw [upd_same, σf_at h0 hk]
    · rw [upd_ne _ _ e]
  · exact Lo.kid hkid
  · rcases Nat.lt_or_ge b ph.N0 with h3 | h3
    · exact hrds.still hT hN h3
    · exact (hT.hid b hb fun hs => hnb (hob b h3 hs)).1
  · exact .inl ⟨st, (h3.unique hwg').2 ▸ h1⟩
end
end Go.Dw.J
end
section
namespace Go.Dw.J
open Go.Dw Go.RowKit
open Go.Conc (G crowd Goes Deaf QuitsD woken awake woken_run woken_quitsD Aside Deaf_other Deaf_own aside_setCell semEvents)
open Go.ConcR (KK WgAt stA smA Payload DC0 Bk ofEvent_cell ofEvent_loc_mark bk_of_mute rd wr mk)
open Go.ConcN (RW AtR0 AtK1 AtD1 AtD2 AtD3 AtD4 WgLive Has RelBy PayAt sumTo sumTo_congr le_sumTo sumTo_upd upd upd_same upd_ne bk_cell)
open Go.CJ (CJ OkW Ok0)
set_option linter.unusedVariables false
set_option linter.unusedSimpArgs false
set_option linter.unusedSectionVars false
theorem putRow_size {cs : Array Value} {sz k n : Nat} {vs : List Value} (h : cs.size = n * sz) (hl : vs.length = sz) (hk : k < n) : (putRow cs sz k vs).size = n * sz := by
  have : (k + 1) * sz ≤ n * sz := Nat.mul_le_mul_right _ hk
  rw [Nat.add_mul, Nat.one_mul] at this
  have e : (cs.toList.take (k * sz)).length = k * sz := by rw [List.length_take, Array.length_toList, h]; exact Nat.min_eq_left (by omega)
  unfold putRow
  rw [List.size_toArray, List.length_append, List.length_append, e, hl, List.length_drop, Array.length_toList, h]
  omega
theorem putRow_own {cs : Array Value} {sz k n : Nat} {vs : List Value} (h : cs.size = n * sz) (hl : vs.length = sz) (hk : k < n) {j : Nat} (hj : j < sz) : (putRow cs sz k vs)[k * sz + j]? = vs[j]? := by
  have : (k + 1) * sz ≤ n * sz := Nat.mul_le_mul_right _ hk
  rw [Nat.add_mul, Nat.one_mul] at this
  have e : (cs.toList.take (k * sz)).length = k * sz := by rw [List.length_take, Array.length_toList, h]; exact Nat.min_eq_left (by omega)
  unfold putRow
  rw [List.getElem?_toArray, List.append_assoc, List.getElem?_append_right (by rw [e]; omega), e, Nat.add_sub_cancel_left, List.getElem?_append_left (by omega)]
theorem putRow_other {cs : Array Value} {sz k n : Nat} {vs : List Value} (h : cs.size = n * sz) (hl : vs.length = sz) (hk : k < n) {i j : Nat} (hj : j < sz) (hi : i ≠ k) : (putRow cs sz k vs)[i * sz + j]? = cs[i * sz + j]? := by
  have : (k + 1) * sz ≤ n * sz := Nat.mul_le_mul_right _ hk
  rw [Nat.add_mul, Nat.one_mul] at this
  have e : (cs.toList.take (k * sz)).length = k * sz := by rw [List.length_take, Array.length_toList, h]; exact Nat.min_eq_left (by omega)
  unfold putRow
  rw [List.getElem?_toArray, List.append_assoc]
  rcases Nat.lt_or_gt_of_ne hi with h1 | h1
  · have h2 : (i + 1) * sz ≤ k * sz := Nat.mul_le_mul_right _ h1
    rw [Nat.add_mul, Nat.one_mul] at h2
    rw [List.getElem?_append_left (by rw [e]; omega), List.getElem?_take, if_pos (by omega)]
    simp
  · have h2 : (k + 1) * sz ≤ i * sz := Nat.mul_le_mul_right _ h1
    rw [Nat.add_mul, Nat.one_mul] at h2
    rw [List.getElem?_append_right (by rw [e]; omega), e, List.getElem?_append_right (by omega), List.getElem?_drop]
    rw [show k * sz + sz + (i * sz + j - k * sz - vs.length) = i * sz + j by omega]
    simp
section
variable [Payload] {ph : Ph} {gs : Array Goroutine} {w w' : World} {t : Trace} {D : Nat → WS} {s v k : Nat} {gk g' : Goroutine} {es : Array Event} {x' : WS} {A A' : World}
theorem wk_row (hG : Geo ph) (h : Sta ph gs w t D s v) (h0 : ph.s0 ≤ k) (hk : k < gs.size) (hd : Deaf t k = 0) (h8 : (D k).stage = 8) (hsees : Sees (D k).A w) (hrds : Rds ph.N0 (D k).A) (hC : ¬ Seen (D k).A ph.C) (hW : ¬ Seen (D k).A ph.Wg) (hob : ∀ b, ph.N0 ≤ b → Seen (D k).A b → (D k).ob b) (hl0 : ∀ b, b < ph.N0 → Seen (D k).A b → Seen ph.A0 b)
    (hgo : stepG ph.P false gk w = .go g' w' es) (hA' : Sees A' w') (hS : RowStep ph.C ph.n ph.sz (k - ph.s0) ph.TT (ph.Out (k - ph.s0)) (D k).bx (D k).val Payload.ety (D k).A w A' w' es) {A1 : World} (hx : Ext A1 A') (hxt : A'.tape = A1.tape) {tr' : Tree} (hkid : Tree.Kid tr' (D k).tr)
    (hF : FitsW ph k { D k with tr := tr' } g' A1) : WkStep ph gs w t D s v k gk := by
  obtain ⟨st, sm, h1, h2⟩ := h.md
  have hs1 := h.com.s1
  have hCW := hG.CW
  have hWlt := WgLive.lt h.com.live
  have hlt := h.com.lt h0 hk
  have hN : ph.N0 ≤ w.heap.size := hWlt
  obtain ⟨cs, vs, hc1, hc2, hvl, hout, rfl⟩ := hS.row
  have hnew := hS.new
  subst hnew
  have hblk : ∀ b, b ≠ ph.C → (w.setRow ph.C (putRow cs ph.sz (k - ph.s0) vs)).heap[b]? = w.heap[b]? := fun b hb => setRow_other _ _ _ _ hb
  have hCn := setRow_heap w ph.C cs (putRow cs ph.sz (k - ph.s0) vs) ph.TT (0, 0) hc1
  have hsz : (w.setRow ph.C (putRow cs ph.sz (k - ph.s0) vs)).heap.size = w.heap.size := size_setRow _ _ _
  have hwg' : WgAt ph.ty ph.Wg (w.setRow ph.C (putRow cs ph.sz (k - ph.s0) vs)) st sm := h1.of_block (hblk _ (by omega))
  have nos : ∀ b, ¬ Seen A1 b := fun b hs => blind_seen ((Seen.ext hx).2 hs)
  have g1 : g0 A1 = 1 := by unfold g0; rw [← hxt]; rfl
  have hbxl : (D k).bx < w.heap.size := (h.com.obl k _ (h.com.bxo k h0 hk)).2
  have hbxN := (h.com.obl k _ (h.com.bxo k h0 hk)).1
  have hbxw : w.heap[(D k).bx]? = some (.cells #[(D k).val] Payload.ety (0, 0)) := by
    have h3 := hsees.vis _ (Array.getElem?_eq_some_iff.1 hS.box).1
    rw [hS.box] at h3
    rcases h3 with h3 | h3 | ⟨c, T, fr, h3, h4⟩
    · exact h3.symm
    · simp [pz] at h3
    · simp [ro] at h3
      obtain ⟨rfl, _, h5⟩ := h3
      simp at h5
  have hnC : ∀ b, ph.N0 ≤ b → b ≠ ph.C := fun b hb e => by unfold Ph.N0 at hb; omega
  refine ⟨g', _, es, { D k with tr := tr', A := A1, AR := hideB (D k).A (D k).bx, row := vs }, hgo, ⟨h.com.stepK hk (fun j hj => upd_ne D _ hj) rfl rfl (Nat.le_of_eq hsz.symm) (fun b _ hb _ => hblk b hb) (fun j _ b hb => hblk b (hnC b (h.com.obl j b hb).1)) (fun _ => ⟨st, sm, hwg'⟩) (fun _ => ⟨_, hCn, putRow_size hc2 hvl hlt⟩) (fun j hj hj0 i hi => ?_) (fun _ => ?_) (fun _ h => by omega) (fun _ h3 => ?_) (fun _ h3 => ?_) (fun _ => ?_) (fun h => by omega) (fun b hb => ?_) ?_ (fun e he => ?_), st, sm, hwg', ?_⟩, Lo.kid hkid, rfl, rfl, Nat.le_of_eq hsz.symm, fun b _ hb _ _ => hblk b hb, fun b hb => .inl hb, fun ⟨st2, h3⟩ => .inl ⟨st, (h3.unique hwg').2 ▸ h1⟩⟩
  · rw [cell_setRow_same w ph.C _ cs _ ph.TT (0, 0) hc1, putRow_other hc2 hvl hlt hi (by omega)]
    simp [World.cell?, hc1]
  · rw [upd_same, Deaf_own, hd]
    show Sit _ _ _ (D k).stage _ _ _
    rw [h8, Go.Conc.deafBehind_still fun e he => ?_]
    · exact .go hF (hA'.ext hx) (fun b _ => .inr (nos b)) (nos _) (nos _) (.inr g1) (fun b _ hs => absurd hs (nos b)) fun b _ hs => absurd hs (nos b)
    · obtain ⟨j, _, rfl⟩ := hS.evs e he
      exact ⟨by simp, by simp⟩
  · rw [upd_same]
    have hsn : ∀ b, Seen (hideB (D k).A (D k).bx) b → Seen (D k).A b ∧ b ≠ (D k).bx := fun b hs => hideB_seen hs
    refine ⟨(hideB_sees hsees _).still rfl rfl (Nat.le_of_eq hsz.symm) fun b hb => hblk b fun e => hC (e ▸ (hsn b hb).1), fun b hb => ?_, fun hs => hC (hsn _ hs).1, fun hs => hW (hsn _ hs).1, hout, hvl, fun j v hj => ?_, fun b hb hs => hob b hb (hsn b hs).1, fun _ b hs => absurd hs (nos b), fun _ => ⟨(hblk _ (hnC _ hbxN)).trans hbxw, nos _⟩, fun hs => (hsn _ hs).2 rfl, fun b hb hs => hl0 b hb (hsn b hs).1⟩
    · rcases hrds b hb with h4 | h4
      · refine .inl ?_
        obtain ⟨c, T, e, h5⟩ := h4
        exact ⟨c, T, (hideB_get (by omega)).trans e, h5⟩
      · exact .inr fun hs => h4 (hsn b hs).1
    · have hj' : j < ph.sz := by rw [← hvl]; exact (List.getElem?_eq_some_iff.1 hj).1
      rw [cell_setRow_same w ph.C _ cs _ ph.TT (0, 0) hc1, putRow_own hc2 hvl hlt hj']
      exact hj
  · rw [upd_same] at h3
    have : (D k).stage ≤ 6 := h3
    omega
  · rw [upd_same]; exact h.com.bxo k h0 hk
  · rw [upd_same] at hb
    exact ⟨(h.com.obl k b hb).1, by rw [hsz]; exact (h.com.obl k b hb).2, fun j hj hb' => h.com.oba j k b hj hb' hb⟩
  · have key : ∀ j b, (upd D k { D k with tr := tr', A := A1, AR := hideB (D k).A (D k).bx, row := vs } j).ob b → (D j).ob b := fun j b hb => by
      by_cases e : j = k
      · subst e; rw [upd_same] at hb; exact hb
      · rw [upd_ne D _ e] at hb; exact hb
    refine CJ.appW (apart_of hG (fun j b hb => (h.com.obl j b (key j b hb)).1) fun j j' b hne hb hb' => h.com.oba j j' b hne (key _ _ hb) (key _ _ hb')) (h.com.growCT (fun b hb => hb) fun b hb => .inl hb) h0 hk (fun op hop => ?_) fun op hop e2 => ?_
    · obtain ⟨e, he, rfl⟩ := Go.Conc.mem_ofEvents hop
      obtain ⟨j, hj, rfl⟩ := hS.evs e he
      refine ⟨rfl, fun x hx => ?_⟩
      simp [MemAct.ofEvent, MemAct.touch?] at hx; subst hx
      exact .inr (.inl ⟨.inr ⟨j, hj, rfl⟩, by simp⟩)
    · obtain ⟨e, he, rfl⟩ := Go.Conc.mem_ofEvents hop
      obtain ⟨j, hj, rfl⟩ := hS.evs e he
      simp [MemAct.ofEvent] at e2
  · obtain ⟨j, hj, rfl⟩ := hS.evs e he
    show ph.C < _
    rw [hsz]; omega
  · rw [show ((gs.map (woken ph.P gk g' (w.setRow ph.C (putRow cs ph.sz (k - ph.s0) vs)))).setIfInBounds k g').size = gs.size by simp, σf_upd h0 hk]
    refine h2.congr fun i hi => ?_
    by_cases e : i = k - ph.s0
    · subst e; rw [upd_same, σf_at h0 hk]
    · rw [upd_ne _ _ e]
end
end Go.Dw.J
end
section
namespace Go.Dw.J
open Go.Dw Go.RowKit
open Go.Conc (G crowd Goes Deaf QuitsD)
open Go.ConcR (Payload)
set_option linter.unusedVariables false
set_option linter.unusedSimpArgs false
set_option linter.unusedSectionVars false
section
variable [Payload] {ph : Ph} {gs : Array Goroutine} {w : World} {t : Trace} {D : Nat → WS} {s v k : Nat} {gk : Goroutine}
theorem wk_all (hG : Geo ph) (hn : ph.n < 2147483648) (h : Sta ph gs w t D s v) (h1 : 1 ≤ k) (hk : k < gs.size) (hgk : gs[k]? = some gk) (hrun : gk.status = .running) : WkStep ph gs w t D s v k gk := by
  obtain ⟨g, hg, hsit⟩ := h.com.wk k h1 hk
  obtain rfl : gk = g := by rw [hgk] at hg; exact Option.some.inj hg
  rcases Nat.lt_or_ge k ph.s0 with hold | h0
  · have hst := h.com.old k h1 hold
    rw [hst] at hsit
    cases hsit with
    | quit e hq => exact wk_old hG h h1 hold hrun e hq
  · generalize hst : (D k).stage = st at hsit
    generalize hd : Deaf t k = d at hsit
    cases hsit with
    | go hF h2 h3 h4 h5 h6 h7 h8 =>
      unfold FitsW at hF
      cases htr : (D k).tr with
      | stop => rw [htr] at hF; exact wk_stop hG h h0 hk hgk hd hst hF
      | node kids =>
        rw [htr] at hF
        obtain ⟨_, hF⟩ := hF
        obtain ⟨g', A', w', es, k1, k2, k3, A1, k4, k5, k6⟩ := hF w h2 fun _ => h.com.cells
        have hkid : Tree.Kid (kids w) (D k).tr := ⟨kids, w, htr, rfl⟩
        rcases k3 with ⟨e1, e2, e3⟩ | e1
        · exact wk_quiet hG h h0 hk hd hst h2 h3 h4 h5 h6 h7 h8 k1 k2 e1 e2 e3 k4 k5 hkid k6
        · exact wk_row hG h h0 hk hd hst h2 h3 h4 h5 h7 h8 k1 k2 e1 k4 k5 hkid k6
    | r0 e h2 => exact wk_r0 hG h h0 hk hd hst e h2
    | k1 e h2 => exact wk_k1 hG h h0 hk hd hst e h2
    | d1 e h2 => exact wk_d1 hG hn h h0 hk hd hst e h2
    | d2 e h2 => exact wk_d2 hG h h0 hk hd hst e h2
    | d3 e h2 => exact wk_d3 hG h h0 hk hd hst e h2
    | d4 e h2 => exact wk_d4 hG h h0 hk hd hst e h2
    | quit e hq => exact wk_quit hG h h0 hk hrun hst e (hd ▸ hq)
end
end Go.Dw.J
end
section
namespace Go.Dw.J
open Go.Dw Go.RowKit
open Go.Conc (G crowd Goes Deaf QuitsD awake awake_of crowd_pick runT_crowd_go woken woken_run Deaf_other)
open Go.ConcR (Payload WgAt)
open Go.ConcN (upd upd_same upd_ne)
set_option linter.unusedVariables false
set_option linter.unusedSimpArgs false
set_option linter.unusedSectionVars false
def dOf (s : Nat) : Nat := if s = 1 ∨ s = 4 ∨ s = 9 then 0 else 1
def g1 (A : World) : Nat := A.tape 1 .zeroSizeEq
section
variable [Payload]
structure PInv (ph : Ph) (g : Goroutine) (A : World) (gs : Array Goroutine) (w : World) (t : Trace) (D : Nat → WS) : Prop where
  at0 : gs[0]? = some g
  sta : Sta ph gs w t D (g0 A) (g1 A)
  sees : Sees A w
  rds : Rds ph.N0 A
  noC : ¬ Seen A ph.C
  noWg : ¬ Seen A ph.Wg
  low0 : ∀ b, b < ph.N0 → Seen A b → Seen ph.A0 b
  mob : ∀ k b, (D k).ob b → ¬ Seen A b
  num : (g0 A ≤ 3 → gs.size = ph.s0) ∧ (g0 A = 4 → gs.size = ph.s0 + g1 A) ∧ (5 ≤ g0 A → gs.size = ph.s0 + ph.n)
  deaf : Deaf t 0 = dOf (g0 A)
variable {ph : Ph} {g : Goroutine} {A : World}
def fam (D : Nat → WS) (k : Nat) : Sz := ((D k).stage, (D k).tr)
theorem PInv.other {gs : Array Goroutine} {w : World} {t : Trace} {D : Nat → WS} (I : PInv ph g A gs w t D) {k : Nat} (h1 : 1 ≤ k) (hk : k < gs.size) {gk g' ga : Goroutine} {w' : World} {es : Array Event} {x' : WS} (hga : ((gs.map (woken ph.P gk g' w')).setIfInBounds k g')[0]? = some ga)
    (hsta : Sta ph ((gs.map (woken ph.P gk g' w')).setIfInBounds k g') w' (t ++ MemOp.ofEvents k gk.frame.fn gk.frame.place es) (upd D k x') (g0 A) (g1 A)) (ho : w'.os = w.os) (hp : w'.output = w.output) (hs : w.heap.size ≤ w'.heap.size)
    (hb : ∀ b, b < w.heap.size → b ≠ ph.C → b ≠ ph.Wg → ¬ (D k).ob b → w'.heap[b]? = w.heap[b]?) (hob : ∀ b, x'.ob b → (D k).ob b ∨ w.heap.size ≤ b) : PInv ph ga A ((gs.map (woken ph.P gk g' w')).setIfInBounds k g') w' (t ++ MemOp.ofEvents k gk.frame.fn gk.frame.place es) (upd D k x') := by
  refine ⟨hga, hsta, I.sees.still ho hp hs fun b hse => hb b (Nat.lt_of_lt_of_le hse.1 I.sees.size) (fun e => I.noC (e ▸ hse)) (fun e => I.noWg (e ▸ hse)) fun h => I.mob k b h hse, I.rds, I.noC, I.noWg, I.low0, fun j b hb' hse => ?_, by simpa using I.num, ?_⟩
  · by_cases e : j = k
    · subst e
      rw [upd_same] at hb'
      rcases hob b hb' with h | h
      · exact I.mob _ b h hse
      · have := hse.1; have := I.sees.size; omega
    · rw [upd_ne D _ e] at hb'
      exact I.mob j b hb' hse
  · rw [Deaf_other t (g' := k) (by omega) _ (fun op hop => by obtain ⟨e, _, rfl⟩ := Go.Conc.mem_ofEvents hop; rfl)]
    exact I.deaf
end
end Go.Dw.J
end
section
namespace Go.Dw.J
open Go.Dw Go.RowKit
open Go.Conc (G crowd Goes Deaf QuitsD awake awake_of crowd_pick runT_crowd_go woken woken_run Deaf_other)
open Go.ConcR (Payload WgAt)
open Go.ConcN (upd upd_same upd_ne)
set_option linter.unusedVariables false
set_option linter.unusedSimpArgs false
set_option linter.unusedSectionVars false
section
variable [Payload] {ph : Ph} {g : Goroutine} {A : World}
theorem fam_step {D : Nat → WS} {k N : Nat} {x' : WS} (hk : k < N) (h : Lo (x'.stage, x'.tr) ((D k).stage, (D k).tr)) : FamR Lo N (fam (upd D k x')) (fam D) :=
  ⟨k, hk, by unfold fam; rw [upd_same]; exact h, fun j hj => by unfold fam; rw [upd_ne D _ hj]⟩
theorem sta_at {gs : Array Goroutine} {w : World} {t : Trace} {D : Nat → WS} {s v : Nat} (h : Sta ph gs w t D s v) (d : Nat) : Sta ph gs (w.at d) t D s v := by
  have c := h.com
  refine ⟨⟨c.s1, c.szl, c.szu, fun k h1 h2 => ?_, c.old, c.nob, fun k h1 h2 h3 => ?_, c.rel, c.obl, c.oba, c.bxo, c.cells, c.live, c.vis0, c.os0, c.out0, c.ct, c.above, c.low, c.same⟩, h.md⟩
  · obtain ⟨g, hg, hs⟩ := c.wk k h1 h2
    exact ⟨g, hg, hs.other (w' := w.at d) rfl rfl (Nat.le_refl _) (fun _ _ _ _ => rfl) (fun _ _ _ _ => rfl) id fun _ _ => rfl⟩
  · exact (c.rcd k h1 h2 h3).other (w' := w.at d) rfl rfl (Nat.le_refl _) (fun _ _ _ _ => rfl) (fun _ _ _ _ => rfl) (fun _ _ _ => rfl) fun _ => rfl
theorem pinv_at {gs : Array Goroutine} {w : World} {t : Trace} {D : Nat → WS} (I : PInv ph g A gs w t D) (d : Nat) : PInv ph g A gs (w.at d) t D :=
  ⟨I.at0, sta_at I.sta d, sees_at I.sees d, I.rds, I.noC, I.noWg, I.low0, I.mob, I.num, I.deaf⟩
theorem com_awake {gs : Array Goroutine} {w : World} {t : Trace} {D : Nat → WS} (h : Com ph gs w t D) (hg : gs[0]? = some g) (ha : awake g) : ∀ x ∈ gs, awake x := by
  intro x hx
  obtain ⟨i, hi, rfl⟩ := Array.mem_iff_getElem.1 hx
  rcases Nat.eq_zero_or_pos i with rfl | hpos
  · have : gs[0] = g := by simpa [Array.getElem?_eq_getElem hi] using hg
    rw [this]; exact ha
  · obtain ⟨y, hy, hs⟩ := h.wk i hpos hi
    have : gs[i] = y := by simpa [Array.getElem?_eq_getElem hi] using hy
    rw [this]
    exact awake_of (hs.status.elim .inl fun h => .inr (.inr h.2))
theorem p_step (hG : Geo ph) (hn : ph.n < 2147483648) (hr : g.status = .running) (h : ∀ gs w sl t D, PInv ph g A gs w t D → Next0 ph.P ph.Post gs w sl t) : ∀ gs w sl t D, PInv ph g A gs w t D → Runs ph.P ph.Post (crowd gs w sl) t := by
  have key : ∀ (N : Nat) (F : Nat → Sz), Acc (FamR Lo N) F → ∀ gs w sl t D, fam D = F → gs.size = N → PInv ph g A gs w t D → Runs ph.P ph.Post (crowd gs w sl) t := by
    intro N F hF
    induction hF with
    | intro F _ ih =>
      intro gs w sl t D hD hN I
      obtain ⟨i, x, d, sl', hi, hg, hst⟩ := crowd_pick (P := ph.P) (w := w) (sl := sl) (com_awake I.sta.com I.at0 (awake_of (.inl hr))) ⟨0, g, I.at0, hr⟩
      have I' := pinv_at I d
      rcases Nat.eq_zero_or_pos i with rfl | hpos
      · exact runs_of_next0 hst (h gs (w.at d) sl' t D I')
      · have hlt : i < gs.size := (Array.getElem?_eq_some_iff.1 hi).1
        have hi0 : (i == 0) = false := by simp; omega
        obtain ⟨g', w', es, x', k1, k2, k3, k4, k5, k6, k7, k8, k9⟩ := wk_all hG hn I'.sta hpos hlt hi hg
        have hrunT := runT_crowd_go (P := ph.P) (sl := sl') (i := i) hi (by rw [hi0]; exact k1)
        refine Runs.step (hst.trans hrunT) (ih (fam (upd D i x')) (hD ▸ fam_step (hN ▸ hlt) k3) _ _ _ _ _ rfl (by simp [hN]) (I'.other hpos hlt ?_ k2 k4 k5 k6 k7 k8))
        have hne : i ≠ 0 := by omega
        rw [Array.getElem?_setIfInBounds_ne hne, Array.getElem?_map, I.at0]
        simp [woken_run hr]
  exact fun gs w sl t D I => key gs.size (fam D) (famR_acc Lo lo_acc gs.size _) gs w sl t D rfl rfl I
end
end Go.Dw.J
end
section
namespace Go.Dw.J
open Go.Dw Go.RowKit
open Go.Conc (G crowd Goes Deaf QuitsD awake awake_of crowd_pick runT_crowd_go woken woken_run Deaf_other)
open Go.ConcR (Payload WgAt KK stA smA rd wr mk)
open Go.ConcN (upd upd_same upd_ne)
set_option linter.unusedVariables false
set_option linter.unusedSimpArgs false
set_option linter.unusedSectionVars false
def setT (A : World) (s v : Nat) : World := { A with tape := mkT [s, v] }
structure Fin (ph : Ph) (A' w : World) : Prop where
  tape : A'.tape = mkT []
  sees : Sees A' w
  os : A'.os = ph.A0.os
  output : A'.output = ph.A0.output
  same : ∀ b, b < ph.Wg → b ≠ ph.C → w.heap[b]? = ph.W0.heap[b]?
  low : ∀ b, b < ph.Wg → b ≠ ph.C → A'.heap[b]? = ph.A0.heap[b]?
  noWg : ¬ Seen A' ph.Wg
  size : ph.Wg < A'.heap.size
  rows : ∃ (vss : List (List Value)) (R : Nat → World), vss.length = ph.n ∧ (∀ i vs, vss[i]? = some vs → vs.length = ph.sz ∧ ph.Out i vs (R i) ∧ (∀ b T c, Seen (R i) b → RBlk (R i) b T c → RBlk A' b T c) ∧ (∀ b T c, ¬ Seen ph.A0 b → 0 < c.size → (R i).heap[b]? = some (.cells c T (0, 0)) → A'.heap[b]? = some (.cells c T (0, 0)))) ∧ (∀ i j b, i < ph.n → j < ph.n → i ≠ j → Seen (R i) b → Seen (R j) b → Seen ph.A0 b) ∧ (ph.n ≠ 0 → A'.heap[ph.C]? = some (.cells vss.flatten.toArray ph.TT (0, 0)))
inductive SpP (ph : Ph) (A w A' w' : World) (es : Array Event) : Prop
  | disable : g0 A = 1 → A' = setT A 2 0 → w' = w → es = #[mk .disable] → SpP ph A w A' w' es
  | add : g0 A = 2 → A' = setT A 3 0 → w' = w.setCell (stA ph.Wg) (.int .u64 (ph.n * KK)) → es = #[rd (stA ph.Wg), wr (stA ph.Wg)] → SpP ph A w A' w' es
  | read : g0 A = 3 → A' = A → w' = w → es = #[mk (.read (smA ph.Wg))] → SpP ph A w A' w' es
  | enable : g0 A = 3 → A' = setT A 4 0 → w' = w → es = #[mk .enable] → SpP ph A w A' w' es
  | disable2 : g0 A = 4 → g1 A = ph.n → A' = setT A 5 ph.n → w' = w → es = #[mk .disable] → SpP ph A w A' w' es
  | load0 : g0 A = 5 → WgAt ph.ty ph.Wg w 0 0 → A' = setT A 8 0 → w' = w → es = #[rd (stA ph.Wg)] → SpP ph A w A' w' es
  | load (v : Nat) : g0 A = 5 → v ≤ g1 A → WgAt ph.ty ph.Wg w (v * KK) 0 → A' = setT A 5 v → w' = w → es = #[rd (stA ph.Wg)] → SpP ph A w A' w' es
  | hit (v : Nat) : g0 A = 5 → 1 ≤ v → WgAt ph.ty ph.Wg w (v * KK) 0 → A' = setT A 6 0 → w' = w.setCell (stA ph.Wg) (.int .u64 (v * KK + 1)) → es = #[rd (stA ph.Wg), wr (stA ph.Wg)] → SpP ph A w A' w' es
  | write : g0 A = 6 → A' = A → w' = w → es = #[mk (.write (smA ph.Wg))] → SpP ph A w A' w' es
  | load2 : g0 A = 8 → A' = A → w' = w → es = #[rd (stA ph.Wg)] → SpP ph A w A' w' es
  | enable2 : g0 A = 8 → A' = setT A 9 0 → w' = w → es = #[mk .enable] → SpP ph A w A' w' es
  | acquire : g0 A = 9 → Fin ph A' w → w' = w → es = #[mk (.acquire (stA ph.Wg))] → SpP ph A w A' w' es
end Go.Dw.J
end
section
namespace Go.Dw.J
open Go.Dw Go.RowKit
open Go.Conc (G crowd Goes Deaf QuitsD awake awake_of crowd_pick runT_crowd_go woken woken_run Deaf_other Deaf_own Aside)
open Go.ConcR (Payload WgAt KK stA smA rd wr mk)
open Go.ConcN (upd upd_same upd_ne WgLive)
open Go.CJ (CJ OkW Ok0)
set_option linter.unusedVariables false
set_option linter.unusedSimpArgs false
set_option linter.unusedSectionVars false
section
variable [Payload] {ph : Ph} {g g' : Goroutine} {A A' : World} {gs : Array Goroutine} {w w' : World} {t : Trace} {D : Nat → WS} {es : Array Event}
theorem evOk_ok0 {D' : Nat → WS} {N : Nat} {fn : FuncId} {pos : String} {e : Event} (hG : Geo ph) (hlo : ∀ b, b < ph.N0 → Seen A b → Seen ph.A0 b ∧ b ≠ ph.C ∧ b ≠ ph.Wg ∧ Ro A b) (hob : ∀ k b, (D' k).ob b → ph.N0 ≤ b ∧ ¬ Seen A b) (h : EvOk A e) : Ok0 ph.s0 (ShP ph) (OwnP ph D') (RdP ph) N { g := 0, fn := fn, pos := pos, act := .ofEvent e } := by
  have hCW := hG.CW
  have sh : ∀ l b, inBlk b l → Seen A b → ¬ ShP ph l := fun l b hb hs h => by
    rcases h with h | h
    · have h1 := hG.shun l b h hb
      exact h1.2 (hlo b (by unfold Ph.N0; omega) hs).1
    · cases inBlk_inj hb h
      exact (hlo _ (by unfold Ph.N0; omega) hs).2.2.1 rfl
  have own : ∀ l b, inBlk b l → Seen A b → ∀ k, ¬ OwnP ph D' k l := fun l b hb hs k h => by
    rcases h with ⟨b', h1, h2⟩ | ⟨j, h1, h2⟩
    · cases inBlk_inj hb h1
      exact (hob k _ h2).2 hs
    · subst h2
      have e : ph.C = b := hb
      exact (hlo b (by unfold Ph.N0; omega) hs).2.1 e.symm
  have rdn : ∀ l b, inBlk b l → Seen A b → ¬ Ro A b → ∀ k, ¬ RdP ph k l := fun l b hb hs hr k ⟨b', h1, h2, h3, h4⟩ => by
    cases inBlk_inj hb h1
    exact hr (hlo _ (by unfold Ph.N0; omega) hs).2.2.2
  refine ⟨rfl, fun x hx => ?_⟩
  cases h with
  | read h =>
    rename_i a
    simp [MemAct.ofEvent, MemAct.touch?] at hx; subst hx
    exact .inr ⟨sh _ a.block rfl h, fun k _ _ => own (.cell a) a.block rfl h k, by simp⟩
  | write h h2 =>
    rename_i a
    simp [MemAct.ofEvent, MemAct.touch?] at hx; subst hx
    exact .inr ⟨sh _ a.block rfl h, fun k _ _ => own (.cell a) a.block rfl h k, fun _ k _ _ => rdn (.cell a) a.block rfl h h2 k⟩
  | obj h h2 =>
    rename_i r wr
    have e : MemAct.ofEvent ⟨.obj r, wr, false⟩ = .access ⟨.obj r, wr, false⟩ := by cases wr <;> rfl
    rw [e] at hx
    simp [MemAct.touch?] at hx; subst hx
    exact .inr ⟨sh _ r rfl h, fun k _ _ => own (.obj r) r rfl h k, fun _ k _ _ => rdn (.obj r) r rfl h h2 k⟩
  | room => simp [MemAct.ofEvent, MemAct.touch?] at hx
theorem pm_quiet (hG : Geo ph) (I : PInv ph g A gs w t D) (hA' : Sees A' w') (htape : A'.tape = A.tape) (hT : Turns A w A' w') (hE : ∀ e ∈ es, EvOk A' e) :
    PInv ph g' A' ((gs.map (woken ph.P g g' w')).setIfInBounds 0 g') w' (t ++ MemOp.ofEvents 0 g.frame.fn g.frame.place es) D := by
  have h := I.sta.com
  obtain ⟨st, sm, h1, h2⟩ := I.sta.md
  have hs1 := h.s1
  have hCW := hG.CW
  have hWlt := WgLive.lt h.live
  have hN : ph.N0 ≤ w.heap.size := hWlt
  have hk : 0 < gs.size := (Array.getElem?_eq_some_iff.1 I.at0).1
  have hWg : w'.heap[ph.Wg]? = w.heap[ph.Wg]? := (hT.hid _ hWlt I.noWg).1
  have hCc : w'.heap[ph.C]? = w.heap[ph.C]? := (hT.hid _ (by omega) I.noC).1
  have hwg' : WgAt ph.ty ph.Wg w' st sm := h1.of_block hWg
  have hrds' : Rds ph.N0 A' := I.rds.turns hN hT
  have hsn : ∀ b, b < w.heap.size → Seen A' b → Seen A b := fun b hb hs => (hT.grow hs).resolve_right (by omega)
  have hmob : ∀ k b, (D k).ob b → ¬ Seen A' b := fun k b hb hs => I.mob k b hb (hsn b (h.obl k b hb).2 hs)
  have g01 : g0 A' = g0 A := by unfold g0; rw [htape]
  have g11 : g1 A' = g1 A := by unfold g1; rw [htape]
  have hlo : ∀ b, b < ph.N0 → Seen A' b → Seen ph.A0 b ∧ b ≠ ph.C ∧ b ≠ ph.Wg ∧ Ro A' b := fun b hb hs => by
    have h3 := hsn b (by omega) hs
    exact ⟨I.low0 b hb h3, fun e => I.noC (e ▸ h3), fun e => I.noWg (e ▸ h3), (hrds' b hb).resolve_right fun h => h hs⟩
  have hsz : ((gs.map (woken ph.P g g' w')).setIfInBounds 0 g').size = gs.size := by simp
  refine ⟨by simp [hk], ⟨h.stepK hk (fun j _ => rfl) hT.os hT.output hT.le (fun b hb _ _ => I.rds.still hT hN hb) (fun j _ b hb => (hT.hid b (h.obl j b hb).2 (I.mob j b hb)).1) (fun _ => ⟨st, sm, hwg'⟩) ?_ (fun j _ _ i _ => Go.ConcN.cell_of_block hCc _) (fun h => by omega) (fun h => by omega) (fun h => by omega) (fun h => by omega) (fun h => by omega) (fun _ b => h.nob 0 (.inl (by omega)) b) (fun b hb => absurd hb (h.nob 0 (.inl (by omega)) b)) ?_ (fun e he => evOk_low hA'.size (hE e he)), st, sm, hwg', ?_⟩, hA', hrds', fun hs => (hT.hid _ (by omega) I.noC).2 hs, fun hs => (hT.hid _ hWlt I.noWg).2 hs, fun b hb hs => (hlo b hb hs).1, hmob, by rw [hsz, g01, g11]; exact I.num, ?_⟩
  · intro hn0
    obtain ⟨cs, h3, h4⟩ := h.cells hn0
    exact ⟨cs, hCc.trans h3, h4⟩
  · refine CJ.app0 (h.apart hG) hs1 h.szl h.ct (fun op hop => ?_) fun op hop => ?_
    · obtain ⟨e, he, rfl⟩ := Go.Conc.mem_ofEvents hop
      exact evOk_ok0 hG hlo (fun k b hb => ⟨(h.obl k b hb).1, hmob k b hb⟩) (hE e he)
    · obtain ⟨e, he, rfl⟩ := Go.Conc.mem_ofEvents hop
      exact evOk_norel (hE e he)
  · rw [hsz, g01, g11]; exact h2
  · rw [Deaf_own, g01, ← I.deaf]
    refine Go.Conc.deafBehind_still (fun e he => ?_) _
    have := evOk_evL (hE e he) (Nat.le_refl _) (Shun := fun _ => False) fun l b h => h.elim
    exact ⟨this.1.2.1, this.1.2.2.1⟩
end
end Go.Dw.J
end
section
namespace Go.Dw.J
open Go.Dw Go.RowKit
open Go.Conc (G crowd Goes Deaf QuitsD awake awake_of crowd_pick runT_crowd_go woken woken_run Deaf_other Deaf_own Aside)
open Go.ConcR (Payload WgAt KK stA smA rd wr mk ofEvent_cell)
open Go.ConcN (upd upd_same upd_ne WgLive)
open Go.CJ (CJ OkW Ok0)
set_option linter.unusedVariables false
set_option linter.unusedSimpArgs false
set_option linter.unusedSectionVars false
inductive BkM (Wg : Nat) : Event → Prop
  | disable : BkM Wg (mk .disable)
  | enable : BkM Wg (mk .enable)
  | cell (a : Addr) (b : Bool) : a.block = Wg → BkM Wg ⟨.cell a, b, true⟩
  | read (a : Addr) : a.block = Wg → BkM Wg (mk (.read a))
  | write (a : Addr) : a.block = Wg → BkM Wg (mk (.write a))
  | acquire (a : Addr) : a.block = Wg → BkM Wg (mk (.acquire a))
theorem BkM.ok {ph : Ph} {D : Nat → WS} {N : Nat} {fn : FuncId} {pos : String} {e : Event} (h : BkM ph.Wg e) : Ok0 ph.s0 (ShP ph) (OwnP ph D) (RdP ph) N { g := 0, fn := fn, pos := pos, act := .ofEvent e } := by
  refine ⟨rfl, fun x hx => ?_⟩
  cases h with
  | disable => simp [mk, MemAct.ofEvent, MemAct.touch?] at hx
  | enable => simp [mk, MemAct.ofEvent, MemAct.touch?] at hx
  | cell a b h => simp only [ofEvent_cell, MemAct.touch?, Option.some.injEq] at hx; subst hx; exact .inl ⟨.inr h, by simp⟩
  | read a h => simp [mk, MemAct.ofEvent, MemAct.touch?] at hx; subst hx; exact .inl ⟨.inr h, by simp⟩
  | write a h => simp [mk, MemAct.ofEvent, MemAct.touch?] at hx; subst hx; exact .inl ⟨.inr h, by simp⟩
  | acquire a h => simp [mk, MemAct.ofEvent, MemAct.touch?] at hx
theorem BkM.low {Wg B : Nat} {e : Event} (h : BkM Wg e) (hB : Wg < B) : (MemAct.ofEvent e).low B := by
  cases h with
  | disable => trivial
  | enable => trivial
  | cell a b h => rw [ofEvent_cell]; show a.block < B; rw [h]; exact hB
  | read a h => show a.block < B; rw [h]; exact hB
  | write a h => show a.block < B; rw [h]; exact hB
  | acquire a h => show a.block < B; rw [h]; exact hB
theorem BkM.norel {Wg : Nat} {e : Event} {a : Addr} (h : BkM Wg e) : MemAct.ofEvent e ≠ .mark (.release a) := by
  intro e2
  cases h with
  | cell a b h => rw [ofEvent_cell] at e2; cases e2
  | _ => simp [mk, MemAct.ofEvent] at e2
section
variable [Payload] {ph : Ph} {g g' : Goroutine} {A A' : World} {gs : Array Goroutine} {w w' : World} {t : Trace} {D : Nat → WS} {es : Array Event} {st sm st' sm' : Int} {s' v' : Nat}
theorem com_book (hG : Geo ph) (h : Com ph gs w t D) (hk : 0 < gs.size) (hAs : Aside ph.Wg w w') (hwg : WgAt ph.ty ph.Wg w' st' sm') (hok : ∀ e ∈ es, BkM ph.Wg e) : Com ph ((gs.map (woken ph.P g g' w')).setIfInBounds 0 g') w' (t ++ MemOp.ofEvents 0 g.frame.fn g.frame.place es) D := by
  have hs1 := h.s1
  have hCW := hG.CW
  have hWlt := WgLive.lt h.live
  have hblk : ∀ b, b ≠ ph.Wg → w'.heap[b]? = w.heap[b]? := fun b hb => hAs.block b hb
  refine h.stepK hk (fun j _ => rfl) hAs.os hAs.output (Nat.le_of_eq hAs.size.symm) (fun b _ _ hb => hblk b hb) (fun j _ b hb => hblk b fun e => by have := (h.obl j b hb).1; unfold Ph.N0 at this; omega) (fun _ => ⟨st', sm', hwg⟩) ?_ (fun j _ _ i _ => Go.ConcN.cell_of_block (hblk ph.C (by omega)) _) (fun h => by omega) (fun h => by omega) (fun h => by omega) (fun h => by omega) (fun h => by omega) (fun _ b => h.nob 0 (.inl (by omega)) b) (fun b hb => absurd hb (h.nob 0 (.inl (by omega)) b)) ?_ (fun e he => (hok e he).low (by rw [hAs.size]; exact hWlt))
  · intro hn0
    obtain ⟨cs, h1, h2⟩ := h.cells hn0
    exact ⟨cs, (hblk ph.C (by omega)).trans h1, h2⟩
  · refine CJ.app0 (h.apart hG) hs1 h.szl h.ct (fun op hop => ?_) fun op hop => ?_
    · obtain ⟨e, he, rfl⟩ := Go.Conc.mem_ofEvents hop
      exact (hok e he).ok
    · obtain ⟨e, he, rfl⟩ := Go.Conc.mem_ofEvents hop
      exact (hok e he).norel
theorem pm_book (hG : Geo ph) (I : PInv ph g A gs w t D) (hAs : Aside ph.Wg w w') (hwg : WgAt ph.ty ph.Wg w' st' sm') (hh : A'.heap = A.heap) (ho : A'.os = A.os) (hp : A'.output = A.output) (hok : ∀ e ∈ es, BkM ph.Wg e) (hdeaf : deafBehind (dOf (g0 A)) es = dOf (g0 A')) (hmd : Md ph.n (σf ph gs.size D) (g0 A') (g1 A') st' sm')
    (hnum : (g0 A' ≤ 3 → gs.size = ph.s0) ∧ (g0 A' = 4 → gs.size = ph.s0 + g1 A') ∧ (5 ≤ g0 A' → gs.size = ph.s0 + ph.n)) : PInv ph g' A' ((gs.map (woken ph.P g g' w')).setIfInBounds 0 g') w' (t ++ MemOp.ofEvents 0 g.frame.fn g.frame.place es) D := by
  have hk : 0 < gs.size := (Array.getElem?_eq_some_iff.1 I.at0).1
  have hsz : ((gs.map (woken ph.P g g' w')).setIfInBounds 0 g').size = gs.size := by simp
  have hsn : ∀ b, Seen A' b ↔ Seen A b := fun b => by unfold Seen; rw [hh]
  have hro : ∀ b, Ro A' b ↔ Ro A b := fun b => by unfold Ro; rw [hh]
  refine ⟨by simp [hk], ⟨com_book hG I.sta.com hk hAs hwg hok, st', sm', hwg, by rw [hsz]; exact hmd⟩, ?_, fun b hb => ?_, fun hs => I.noC ((hsn _).1 hs), fun hs => I.noWg ((hsn _).1 hs), fun b hb hs => I.low0 b hb ((hsn b).1 hs), fun k b hb hs => I.mob k b hb ((hsn b).1 hs), by rw [hsz]; exact hnum, by rw [Deaf_own, I.deaf]; exact hdeaf⟩
  · have h1 := I.sees.still hAs.os hAs.output (Nat.le_of_eq hAs.size.symm) fun b hb => hAs.block b fun e => I.noWg (e ▸ hb)
    exact ⟨ho.trans h1.os, hp.trans h1.output, by rw [hh]; exact h1.size, by rw [hh]; exact h1.vis, by rw [hh]; exact h1.nv⟩
  · exact (I.rds b hb).imp (hro b).2 fun hn hs => hn ((hsn b).1 hs)
end
end Go.Dw.J
end
section
namespace Go.Dw.J
open Go.Dw Go.RowKit
open Go.Conc (G crowd Goes Deaf QuitsD awake awake_of crowd_pick runT_crowd_go woken woken_run Deaf_other Deaf_own Aside aside_setCell)
open Go.ConcR (Payload WgAt KK stA smA rd wr mk ofEvent_cell)
open Go.ConcN (upd upd_same upd_ne WgLive sumTo)
open Go.CJ (CJ OkW Ok0)
set_option linter.unusedVariables false
set_option linter.unusedSimpArgs false
set_option linter.unusedSectionVars false
theorem g0_setT (A : World) (s v : Nat) : g0 (setT A s v) = s := rfl
section
variable {n v : Nat} {σ : Nat → Nat} {st sm : Int} {s : Nat}
theorem sumTo_one {f : Nat → Nat} : ∀ n, (∀ i, i < n → f i = 1) → sumTo n f = n
  | 0, _ => rfl
  | n + 1, h => by
    have h1 := sumTo_one n fun i hi => h i (by omega)
    have h2 := h n (by omega)
    have e : sumTo (n + 1) f = sumTo n f + f n := rfl
    omega
theorem Md.atPre (h : Md n σ s v st sm) (hs : s = 1 ∨ s = 2) : st = 0 ∧ sm = 0 ∧ ∀ i, i < n → σ i = 9 := by
  cases h with
  | pre h1 h2 => exact ⟨rfl, rfl, h2⟩
  | opn h1 _ _ => omega
  | reg h1 _ _ => omega
  | last L h1 _ _ _ => omega
  | sema h1 _ => omega
  | fin h1 _ => omega
theorem Md.atOpn (h : Md n σ s v st sm) (hs : s = 3 ∨ s = 4 ∨ s = 5) : st = (Vc n σ : Nat) * KK ∧ sm = 0 ∧ (∀ i, i < n → 5 ≤ σ i ∨ σ i = 1) ∧ (s = 5 → Vc n σ ≤ v) := by
  cases h with
  | pre h1 h2 => omega
  | opn h1 h2 h3 => exact ⟨rfl, rfl, h2, h3⟩
  | reg h1 _ _ => omega
  | last L h1 _ _ _ => omega
  | sema h1 _ => omega
  | fin h1 _ => omega
theorem Md.atFin (h : Md n σ s v st sm) (hs : s = 8 ∨ s = 9) : st = 0 ∧ sm = 0 ∧ ∀ i, i < n → σ i = 1 := by
  cases h with
  | pre h1 h2 => omega
  | opn h1 h2 h3 => omega
  | reg h1 _ _ => omega
  | last L h1 _ _ _ => omega
  | sema h1 _ => omega
  | fin h1 h2 => exact ⟨rfl, rfl, h2⟩
theorem kk_inj {a b : Nat} (h : (a : Int) * KK = (b : Int) * KK) : a = b := by
  have : (KK : Int) = 4294967296 := rfl
  rw [this] at h; omega
theorem Vc_pre (h : ∀ i, i < n → σ i = 9) : Vc n σ = n := sumTo_one n fun i hi => by rw [h i hi]; rfl
theorem Vc_zero (h : ∀ i, i < n → 5 ≤ σ i ∨ σ i = 1) (h0 : Vc n σ = 0) : ∀ i, i < n → σ i = 1 := fun i hi => by
  rcases h i hi with h1 | h1
  · have := Go.ConcN.le_sumTo (f := fun x => cnt (σ x)) hi
    have c : cnt (σ i) = 1 := by simp [cnt, h1]
    simp only [Vc] at h0
    omega
  · exact h1
end
section
variable [Payload] {ph : Ph} {g g' : Goroutine} {A A' : World} {gs : Array Goroutine} {w w' : World} {t : Trace} {D : Nat → WS} {es : Array Event}
theorem PInv.set (I : PInv ph g A gs w t D) (hG : Geo ph) {s v : Nat} {st' sm' : Int} (hAs : Aside ph.Wg w w') (hwg : WgAt ph.ty ph.Wg w' st' sm') (hok : ∀ e ∈ es, BkM ph.Wg e) (hdeaf : deafBehind (dOf (g0 A)) es = dOf s) (hmd : Md ph.n (σf ph gs.size D) s v st' sm')
    (hnum : (s ≤ 3 → gs.size = ph.s0) ∧ (s = 4 → gs.size = ph.s0 + v) ∧ (5 ≤ s → gs.size = ph.s0 + ph.n)) : PInv ph g' (setT A s v) ((gs.map (woken ph.P g g' w')).setIfInBounds 0 g') w' (t ++ MemOp.ofEvents 0 g.frame.fn g.frame.place es) D :=
  pm_book hG I hAs hwg rfl rfl rfl hok hdeaf hmd hnum
theorem pm_sp (hG : Geo ph) (I : PInv ph g A gs w t D) (h : SpP ph A w A' w' es) (h9 : g0 A ≠ 9) : g0 A' ≠ 0 ∧ PInv ph g' A' ((gs.map (woken ph.P g g' w')).setIfInBounds 0 g') w' (t ++ MemOp.ofEvents 0 g.frame.fn g.frame.place es) D := by
  obtain ⟨st, sm, h1, h2⟩ := I.sta.md
  have hnum := I.num
  cases h with
  | disable e1 e2 e3 e4 =>
    subst e2 e3 e4
    rw [e1] at h2 hnum
    obtain ⟨rfl, rfl, h3⟩ := h2.atPre (by omega)
    exact ⟨by rw [g0_setT]; omega, I.set hG (.refl _ _) h1 (fun e he => by simp at he; subst he; exact .disable) (by rw [e1]; rfl) (.pre (by omega) h3) ⟨fun _ => hnum.1 (by omega), fun e => by omega, fun e => by omega⟩⟩
  | add e1 e2 e3 e4 =>
    subst e2 e3 e4
    rw [e1] at h2 hnum
    obtain ⟨rfl, rfl, h3⟩ := h2.atPre (by omega)
    refine ⟨by rw [g0_setT]; omega, I.set hG (aside_setCell w (stA ph.Wg) _) (h1.setSt _) (fun e he => by simp at he; rcases he with rfl | rfl <;> exact .cell _ _ rfl) (by rw [e1]; rfl) ?_ ⟨fun _ => hnum.1 (by omega), fun e => by omega, fun e => by omega⟩⟩
    have := Md.opn (n := ph.n) (σ := σf ph gs.size D) (s := 3) (v := 0) (by omega) (fun i hi => by rw [h3 i hi]; omega) (fun e => by omega)
    rwa [Vc_pre h3] at this
  | read e1 e2 e3 e4 =>
    subst e2 e3 e4
    refine ⟨by rw [e1]; omega, pm_book hG I (.refl _ _) h1 rfl rfl rfl (fun e he => by simp at he; subst he; exact .read _ rfl) (by rw [e1]; rfl) h2 hnum⟩
  | enable e1 e2 e3 e4 =>
    subst e2 e3 e4
    rw [e1] at h2 hnum
    obtain ⟨rfl, rfl, h3, _⟩ := h2.atOpn (by omega)
    exact ⟨by rw [g0_setT]; omega, I.set hG (.refl _ _) h1 (fun e he => by simp at he; subst he; exact .enable) (by rw [e1]; rfl) (.opn (by omega) h3 (fun e => by omega)) ⟨fun e => by omega, fun _ => by have := hnum.1 (by omega); omega, fun e => by omega⟩⟩
  | disable2 e1 e2 e3 e4 e5 =>
    subst e3 e4 e5
    rw [e1] at h2 hnum
    obtain ⟨rfl, rfl, h3, _⟩ := h2.atOpn (by omega)
    exact ⟨by rw [g0_setT]; omega, I.set hG (.refl _ _) h1 (fun e he => by simp at he; subst he; exact .disable) (by rw [e1]; rfl) (.opn (by omega) h3 (fun _ => Vc_le _ _)) ⟨fun e => by omega, fun e => by omega, fun _ => by have := hnum.2.1 rfl; omega⟩⟩
  | load0 e1 e2 e3 e4 e5 =>
    subst e3 e4 e5
    rw [e1] at h2 hnum
    obtain ⟨rfl, rfl, h3, _⟩ := h2.atOpn (by omega)
    have h0 : Vc ph.n (σf ph gs.size D) = 0 := kk_inj (by have := (h1.unique e2).1; rw [this]; simp)
    rw [h0] at h1
    exact ⟨by rw [g0_setT]; omega, I.set hG (.refl _ _) h1 (fun e he => by simp at he; subst he; exact .cell _ _ rfl) (by rw [e1]; rfl) (by simpa using Md.fin (n := ph.n) (v := 0) (s := 8) (by omega) (Vc_zero h3 h0)) ⟨fun e => by omega, fun e => by omega, fun _ => hnum.2.2 (by omega)⟩⟩
  | load v e1 e3 e4 e5 e6 e7 =>
    subst e5 e6 e7
    rw [e1] at h2 hnum
    obtain ⟨rfl, rfl, h3, _⟩ := h2.atOpn (by omega)
    have h0 : Vc ph.n (σf ph gs.size D) = v := kk_inj (h1.unique e4).1
    exact ⟨by rw [g0_setT]; omega, I.set hG (.refl _ _) h1 (fun e he => by simp at he; subst he; exact .cell _ _ rfl) (by rw [e1]; rfl) (.opn (by omega) h3 (fun _ => by omega)) ⟨fun e => by omega, fun e => by omega, fun _ => hnum.2.2 (by omega)⟩⟩
  | hit v e1 e2 e4 e5 e6 e7 =>
    subst e5 e6 e7
    rw [e1] at h2 hnum
    obtain ⟨rfl, rfl, h3, _⟩ := h2.atOpn (by omega)
    have h0 : Vc ph.n (σf ph gs.size D) = v := kk_inj (h1.unique e4).1
    refine ⟨by rw [g0_setT]; omega, I.set hG (aside_setCell w (stA ph.Wg) _) (h1.setSt _) (fun e he => by simp at he; rcases he with rfl | rfl <;> exact .cell _ _ rfl) (by rw [e1]; rfl) ?_ ⟨fun e => by omega, fun e => by omega, fun _ => hnum.2.2 (by omega)⟩⟩
    rw [← h0]
    exact .reg (by omega) h3 (by omega)
  | write e1 e2 e3 e4 =>
    subst e2 e3 e4
    refine ⟨by rw [e1]; omega, pm_book hG I (.refl _ _) h1 rfl rfl rfl (fun e he => by simp at he; subst he; exact .write _ rfl) (by rw [e1]; rfl) h2 hnum⟩
  | load2 e1 e2 e3 e4 =>
    subst e2 e3 e4
    refine ⟨by rw [e1]; omega, pm_book hG I (.refl _ _) h1 rfl rfl rfl (fun e he => by simp at he; subst he; exact .cell _ _ rfl) (by rw [e1]; rfl) h2 hnum⟩
  | enable2 e1 e2 e3 e4 =>
    subst e2 e3 e4
    rw [e1] at h2 hnum
    obtain ⟨rfl, rfl, h3⟩ := h2.atFin (by omega)
    exact ⟨by rw [g0_setT]; omega, I.set hG (.refl _ _) h1 (fun e he => by simp at he; subst he; exact .enable) (by rw [e1]; rfl) (.fin (by omega) h3) ⟨fun e => by omega, fun e => by omega, fun _ => hnum.2.2 (by omega)⟩⟩
  | acquire e1 _ _ _ => exact absurd e1 h9
end
end Go.Dw.J
end
section
namespace Go.Dw.J
open Go.Dw Go.RowKit
open Go.Conc (G crowd Goes Deaf QuitsD awake awake_of crowd_pick runT_crowd_go woken woken_run Deaf_other Deaf_own Aside aside_setCell Leavers Past)
open Go.ConcR (Payload WgAt KK stA smA rd wr mk ofEvent_cell)
open Go.ConcN (upd upd_same upd_ne WgLive sumTo RelBy)
open Go.CJ (CJ OkW Ok0)
set_option linter.unusedVariables false
set_option linter.unusedSimpArgs false
set_option linter.unusedSectionVars false
theorem flat_get {f : Nat → List Value} {sz : Nat} : ∀ (n : Nat), (∀ i, i < n → (f i).length = sz) → ((List.range n).map f).flatten.length = n * sz ∧ ∀ i j, i < n → j < sz → ((List.range n).map f).flatten[i * sz + j]? = (f i)[j]?
  | 0, _ => ⟨by simp, fun i j hi => by omega⟩
  | n + 1, h => by
    obtain ⟨h1, h2⟩ := flat_get n fun i hi => h i (by omega)
    have hn := h n (by omega)
    have e : ((List.range (n + 1)).map f).flatten = ((List.range n).map f).flatten ++ f n := by rw [List.range_succ, List.map_append, List.flatten_append]; simp
    refine ⟨by rw [e, List.length_append, h1, hn, Nat.add_mul, Nat.one_mul], fun i j hi hj => ?_⟩
    rw [e]
    rcases Nat.lt_or_ge i n with hlt | hge
    · have : (i + 1) * sz ≤ n * sz := Nat.mul_le_mul_right _ hlt
      rw [Nat.add_mul, Nat.one_mul] at this
      rw [List.getElem?_append_left (by rw [h1]; omega), h2 i j hlt hj]
    · obtain rfl : i = n := by omega
      rw [List.getElem?_append_right (by rw [h1]; omega), h1, Nat.add_sub_cancel_left]
theorem flat_rows {cs : Array Value} {f : Nat → List Value} {sz n : Nat} (hs : cs.size = n * sz) (hl : ∀ i, i < n → (f i).length = sz) (h : ∀ i j, i < n → j < sz → cs[i * sz + j]? = (f i)[j]?) : cs = ((List.range n).map f).flatten.toArray := by
  obtain ⟨h1, h2⟩ := flat_get n hl
  apply Array.ext'
  apply List.ext_getElem?
  intro q
  simp only [Array.getElem?_toList, List.toList_toArray]
  rcases Nat.lt_or_ge q (n * sz) with hq | hq
  · have hsz : 0 < sz := Nat.pos_of_ne_zero fun e => by subst e; omega
    have e : q = q / sz * sz + q % sz := by rw [Nat.mul_comm]; exact (Nat.div_add_mod q sz).symm
    have hi : q / sz < n := (Nat.div_lt_iff_lt_mul hsz).2 hq
    rw [e, h _ _ hi (Nat.mod_lt _ hsz), h2 _ _ hi (Nat.mod_lt _ hsz)]
  · rw [Array.getElem?_eq_none (by omega), List.getElem?_eq_none (by omega)]
def endO (ph : Ph) (w : World) (b : Nat) : Obj := if b < ph.Wg ∧ b ≠ ph.C then (ph.A0.heap[b]?).getD pz else if b = ph.Wg then pz else seeO ((w.heap[b]?).getD pz)
def endW (ph : Ph) (w : World) : World := { w with heap := (Array.range w.heap.size).map (endO ph w), tape := mkT [] }
theorem endW_get {ph : Ph} {w : World} {b : Nat} (hb : b < w.heap.size) : (endW ph w).heap[b]? = some (endO ph w b) := by simp [endW, hb]
theorem endW_size {ph : Ph} {w : World} : (endW ph w).heap.size = w.heap.size := by simp [endW]
structure KeepP [KeepD] (ph : Ph) : Prop where
  le : KeepD.B0 ≤ ph.Wg
  ne : KeepD.B0 ≤ ph.C
  keep : ∀ b, b < KeepD.B0 → (Seen ph.A0 b ∧ ph.A0.heap[b]? = ph.W0.heap[b]?) ∨ (¬ Seen ph.A0 b ∧ ph.W0.heap[b]? = KeepD.Wi.heap[b]?)
theorem KeepP.fin [KeepD] {ph : Ph} (h : KeepP ph) (hG : Geo ph) {A' w : World} (hW : ph.Wg < w.heap.size) (hF : Fin ph A' w) : Keep A' w := by
  have hCW := hG.CW
  have hle := h.le
  have hne := h.ne
  refine ⟨by omega, fun b hb => ?_⟩
  have e1 := hF.low b (by omega) (by omega)
  have e2 := hF.same b (by omega) (by omega)
  have hs := hF.size
  have hs0 := hG.size
  rcases h.keep b hb with ⟨h1, h2⟩ | ⟨h1, h2⟩
  · exact .inl ⟨⟨by omega, by rw [e1]; exact h1.2⟩, by rw [e1, e2, h2]⟩
  · exact .inr ⟨fun hs => h1 ⟨by omega, by rw [← e1]; exact hs.2⟩, by rw [e2, h2]⟩
section
variable [Payload] {ph : Ph} {g g' : Goroutine} {A A' : World} {gs : Array Goroutine} {w w' : World} {t : Trace} {D : Nat → WS} {es : Array Event}
theorem fin_of (hG : Geo ph) (h : Com ph gs w t D) (hN : gs.size = ph.s0 + ph.n) (h1 : ∀ i, i < ph.n → σf ph gs.size D i = 1) : Fin ph (endW ph w) w := by
  have hCW := hG.CW
  have hWlt := WgLive.lt h.live
  have hst : ∀ i, i < ph.n → (D (ph.s0 + i)).stage = 1 := fun i hi => by
    have := h1 i hi
    unfold σf at this
    rwa [if_pos (by omega)] at this
  have hrec : ∀ i, i < ph.n → Rec ph (ph.s0 + i) (D (ph.s0 + i)) w := fun i hi => h.rcd _ (by omega) (by omega) (.inl (by rw [hst i hi]; omega))
  obtain ⟨oC, hoC⟩ : ∃ o, w.heap[ph.C]? = some o := ⟨_, Array.getElem?_eq_getElem (by omega)⟩
  have hC : (endW ph w).heap[ph.C]? = some (seeO oC) := by
    rw [endW_get (by omega)]
    simp [endO, hoC, show ph.C ≠ ph.Wg by omega]
  have hA0 : ∀ b, b < ph.Wg → b ≠ ph.C → (endW ph w).heap[b]? = ph.A0.heap[b]? := fun b hb hbC => by
    rw [endW_get (by omega)]
    have : b < ph.A0.heap.size := by rw [hG.size]; exact hb
    simp [endO, hb, hbC, this]
  have hhi : ∀ b o, ph.Wg < b → w.heap[b]? = some o → (endW ph w).heap[b]? = some (seeO o) := fun b o hb ho => by
    rw [endW_get (Array.getElem?_eq_some_iff.1 ho).1]
    simp [endO, ho, show ¬ (b < ph.Wg ∧ b ≠ ph.C) by omega, show b ≠ ph.Wg by omega]
  have hW : (endW ph w).heap[ph.Wg]? = some pz := by
    rw [endW_get hWlt]; simp [endO]
  have hrows : ph.n ≠ 0 → (endW ph w).heap[ph.C]? = some (.cells ((List.range ph.n).map fun i => (D (ph.s0 + i)).row).flatten.toArray ph.TT (0, 0)) := by
    intro hn0
    obtain ⟨cs, hc1, hc2⟩ := h.cells hn0
    rw [hoC] at hc1
    cases hc1
    rw [hC]
    show some (Obj.cells cs ph.TT (0, 0)) = _
    congr 2
    refine flat_rows hc2 (fun i hi => (hrec i hi).len) fun i j hi hj => ?_
    have hj' : j < (D (ph.s0 + i)).row.length := by rw [(hrec i hi).len]; exact hj
    have := (hrec i hi).laid j _ (List.getElem?_eq_getElem hj')
    rw [show ph.s0 + i - ph.s0 = i by omega] at this
    simp [World.cell?, hoC] at this
    rw [this, List.getElem?_eq_getElem hj']
  refine ⟨rfl, ⟨rfl, rfl, Nat.le_of_eq endW_size, fun b hb => ?_, fun b at_ u e => ?_⟩, h.os0.symm, h.out0.symm, h.same, hA0, fun hs => hs.2 hW, by rw [endW_size]; exact hWlt, _, fun i => (D (ph.s0 + i)).AR, ?_, fun i vs hi => ?_, fun i j b hi hj hne hs1 hs2 => ?_, hrows⟩
  · rw [endW_size] at hb
    rcases Nat.lt_trichotomy b ph.Wg with h2 | h2 | h2
    · by_cases e : b = ph.C
      · subst e; rw [hC, hoC]
        cases oC <;> first | exact .inl rfl | exact .inr (.inl rfl)
      · rw [hA0 b h2 e]; exact h.vis0 b h2 e
    · subst h2; rw [hW]; exact .inr (.inl rfl)
    · obtain ⟨o, ho⟩ : ∃ o, w.heap[b]? = some o := ⟨_, Array.getElem?_eq_getElem hb⟩
      rw [hhi b o h2 ho, ho]
      cases o <;> first | exact .inl rfl | exact .inr (.inl rfl)
  · have hb : b < w.heap.size := by rw [← endW_size (ph := ph)]; exact (Array.getElem?_eq_some_iff.1 e).1
    rcases Nat.lt_trichotomy b ph.Wg with h2 | h2 | h2
    · by_cases e2 : b = ph.C
      · subst e2; rw [hC] at e; cases oC <;> cases e
      · rw [hA0 b h2 e2] at e; exact hG.nv _ _ _ e
    · subst h2; rw [hW] at e; cases e
    · obtain ⟨o, ho⟩ : ∃ o, w.heap[b]? = some o := ⟨_, Array.getElem?_eq_getElem hb⟩
      rw [hhi b o h2 ho] at e
      cases o <;> cases e
  · simp
  · obtain ⟨hi1, rfl⟩ := List.getElem?_eq_some_iff.1 hi
    have hin : i < ph.n := by simpa using hi1
    have hr := hrec i hin
    rw [List.getElem_map, List.getElem_range]
    refine ⟨hr.len, by have := hr.out; rwa [show ph.s0 + i - ph.s0 = i by omega] at this, fun b T c hs hR => ?_, fun b T c hs h0 hR => ?_⟩
    rotate_left
    · have hsb : Seen (D (ph.s0 + i)).AR b := ⟨(Array.getElem?_eq_some_iff.1 hR).1, fun e => by
        have e2 := hR.symm.trans e
        simp [pz] at e2
        rw [e2.1] at h0; simp at h0⟩
      have hbN : ph.N0 ≤ b := Nat.le_of_not_lt fun hlt => hs (hr.low0 b hlt hsb)
      have hv := hr.sees.vis b hsb.1
      rw [hR] at hv
      have hw : w.heap[b]? = some (.cells c T (0, 0)) := by
        rcases hv with h3 | h3 | ⟨c', T', fr, h3, _⟩
        · exact h3.symm
        · exact absurd (hR.trans h3) hsb.2
        · simp [ro] at h3
          obtain ⟨rfl, _, h5⟩ := h3
          omega
      exact hhi b _ (by unfold Ph.N0 at hbN; omega) hw
    have look : ∀ (x y : Option Obj), Vis x y → x ≠ some pz → (∃ fr, x = some (.cells c T fr)) → ∃ fr, y = some (.cells c T fr) := by
      rintro x y (rfl | h2 | ⟨c', T', fr, rfl, rfl⟩) hn ⟨fr', h3⟩
      · exact ⟨fr', h3⟩
      · exact absurd h2 hn
      · simp [ro] at h3
        exact ⟨fr, by rw [h3.1, h3.2.1]⟩
    have kool : ∀ (x y : Option Obj), Vis x y → x ≠ some pz → (∃ fr, y = some (.cells c T fr)) → ∃ fr, x = some (.cells c T fr) := by
      rintro x y (rfl | h2 | ⟨c', T', fr, rfl, rfl⟩) hn ⟨fr', h3⟩
      · exact ⟨fr', h3⟩
      · exact absurd h2 hn
      · simp at h3
        exact ⟨(0, c'.size), by rw [ro, h3.1, h3.2.1]⟩
    obtain ⟨fr, hw⟩ := look _ _ (hr.sees.vis b hs.1) hs.2 hR
    rcases Nat.lt_trichotomy b ph.Wg with h2 | h2 | h2
    · have hbC : b ≠ ph.C := fun e => hr.noC (e ▸ hs)
      have h0 := hr.low0 b (by unfold Ph.N0; omega) hs
      obtain ⟨fr2, h3⟩ := kool _ _ (h.vis0 b h2 hbC) h0.2 ⟨fr, hw⟩
      exact ⟨fr2, (hA0 b h2 hbC).trans h3⟩
    · subst h2; exact absurd hs hr.noWg
    · exact ⟨fr, hhi b _ h2 hw⟩
  · refine Classical.byContradiction fun hn => ?_
    have k1 := (hrec i hi).ob b (Nat.le_of_not_lt fun hlt => hn ((hrec i hi).low0 b hlt hs1)) hs1
    have k2 := (hrec j hj).ob b (Nat.le_of_not_lt fun hlt => hn ((hrec i hi).low0 b hlt hs1)) hs2
    exact h.oba _ _ b (by omega) k1 k2
theorem pm_acquire [KeepD] (hG : Geo ph) (hK : KeepP ph) (I : PInv ph g A gs w t D) (h9 : g0 A = 9) (hF : Fin ph A' w) : ∃ q, BesInv ph.P g' A' ((gs.map (woken ph.P g g' w)).setIfInBounds 0 g') w (t ++ MemOp.ofEvents 0 g.frame.fn g.frame.place #[mk (.acquire (stA ph.Wg))]) q (ShP ph) := by
  obtain ⟨st, sm, h1, h2⟩ := I.sta.md
  have hnum := I.num
  rw [h9] at h2 hnum
  obtain ⟨rfl, rfl, h3⟩ := h2.atFin (by omega)
  have hk : 0 < gs.size := (Array.getElem?_eq_some_iff.1 I.at0).1
  have hok : ∀ e ∈ #[mk (.acquire (stA ph.Wg))], BkM ph.Wg e := fun e he => by simp at he; subst he; exact .acquire _ rfl
  have hc := com_book (g := g) (g' := g') hG I.sta.com hk (.refl _ w) h1 hok
  have hsz : ((gs.map (woken ph.P g g' w)).setIfInBounds 0 g').size = gs.size := by simp
  have hst : ∀ k, 1 ≤ k → k < gs.size → (D k).stage = 1 := fun k hk1 hk2 => by
    rcases Nat.lt_or_ge k ph.s0 with h4 | h4
    · exact I.sta.com.old k hk1 h4
    · have := h3 (k - ph.s0) (by have := hnum.2.2 (by omega); omega)
      rwa [σf_at h4 hk2] at this
  have hd : Deaf (t ++ MemOp.ofEvents 0 g.frame.fn g.frame.place #[mk (.acquire (stA ph.Wg))]) 0 = 0 := by rw [Deaf_own, I.deaf, h9]; rfl
  have e1 : MemOp.ofEvents 0 g.frame.fn g.frame.place #[mk (.acquire (stA ph.Wg))] = #[{ g := 0, fn := g.frame.fn, pos := g.frame.place, act := .mark (.acquire (stA ph.Wg)) }] := by rw [Go.Conc.ofEvents_eq]; simp [Go.ConcR.ofEvent_mk]
  have hy : (t ++ MemOp.ofEvents 0 g.frame.fn g.frame.place #[mk (.acquire (stA ph.Wg))])[t.size]? = some { g := 0, fn := g.frame.fn, pos := g.frame.place, act := .mark (.acquire (stA ph.Wg)) } := by rw [e1]; simp
  have hq : ∀ k : Nat, ∃ m, 1 ≤ k → ∀ x, ((gs.map (woken ph.P g g' w)).setIfInBounds 0 g')[k]? = some x → QuitsD ph.P m (Deaf (t ++ MemOp.ofEvents 0 g.frame.fn g.frame.place #[mk (.acquire (stA ph.Wg))]) k) x := fun k => by
    by_cases hk1 : 1 ≤ k
    · by_cases hk2 : k < gs.size
      · obtain ⟨x, hx, hs⟩ := hc.wk k hk1 (by rw [hsz]; exact hk2)
        rw [hst k hk1 hk2] at hs
        cases hs with
        | quit e hq => exact ⟨_, fun _ y hy => by rw [hx] at hy; cases hy; exact hq⟩
      · exact ⟨0, fun _ x hx => by have := (Array.getElem?_eq_some_iff.1 hx).1; rw [hsz] at this; omega⟩
    · exact ⟨0, fun h => absurd h hk1⟩
  refine ⟨fun k => (hq k).choose, by simp [hk], hF.tape, fun op hop => by have := hc.ct.gs op hop; exact this, hF.sees, ⟨fun i x hi hx => (hq i).choose_spec hi x hx, fun j hj => hc.above j hj⟩, ?_, hc.ct.quiet, fun l b hl hb => ?_, fun l hl => ?_, hK.fin hG (WgLive.lt I.sta.com.live) hF⟩
  · refine hc.ct.past hc.low hd (q := t.size) (fun k hk1 hk2 => ?_) (by unfold Trace.act?; rw [hy]; rfl) (by unfold Trace.g?; rw [hy]; rfl) ?_ I.sta.com.s1
    · rw [hsz] at hk2
      have hs1 := I.sta.com.s1
      obtain ⟨r, hr⟩ := I.sta.com.rel k hk1 hk2 (by rw [hst k (by omega) hk2]; omega)
      exact ⟨r, hr.appOther (g := 0) (fun op hop => by obtain ⟨e, _, rfl⟩ := Go.Conc.mem_ofEvents hop; rfl) (by omega), Go.Conc.lt_of_act? hr.act⟩
    · refine ⟨0, by unfold Trace.g?; rw [hy]; rfl, ?_⟩
      rw [Go.Conc.deaf_old (Nat.le_refl _)]
      have := I.deaf
      rw [h9] at this
      exact this
  · have hCW := hG.CW
    rcases hl with hl | hl
    · obtain ⟨h4, h5⟩ := hG.shun l b hl hb
      have hbC : b ≠ ph.C := fun e => h5 (e ▸ hG.seenC)
      refine ⟨Nat.lt_trans h4 (WgLive.lt I.sta.com.live), fun hs => h5 ⟨by rw [hG.size]; exact h4, ?_⟩⟩
      rw [← hF.low b h4 hbC]; exact hs.2
    · cases inBlk_inj hb hl
      exact ⟨WgLive.lt I.sta.com.live, hF.noWg⟩
  · rcases hl with hl | hl
    · exact hG.lies l hl
    · exact ⟨_, hl⟩
end
end Go.Dw.J
end
section
namespace Go.CJ
open Go.Conc Go.ConcN
section
variable {s0 N : Nat} {Sh : Loc → Prop} {Own Own' Rd : Nat → Loc → Prop} {a : Addr} {t : Trace}
theorem CJ.congr (h : CJ s0 Sh Own Rd a t N) (e : ∀ k, s0 ≤ k → k < N → ∀ l, Own' k l ↔ Own k l) : CJ s0 Sh Own' Rd a t N :=
  ⟨h.quiet, fun k k1 k2 l hm ho => h.own k k1 k2 l hm ((e k k1 k2 l).1 ho), h.rd, fun l hm hs hl => h.free l hm hs fun k k1 k2 => ⟨fun ho => (hl k k1 k2).1 ((e k k1 k2 l).2 ho), (hl k k1 k2).2⟩, fun l hm hs hl => h.mine l hm hs fun k k1 k2 ho => hl k k1 k2 ((e k k1 k2 l).2 ho), h.nr, h.gs, h.old, h.new, h.over, h.norel⟩
end
end Go.CJ
namespace Go.Dw.J
open Go.Dw Go.RowKit
open Go.Conc (G crowd Goes Deaf QuitsD awake awake_of crowd_pick runT_crowd_go woken woken_run Deaf_other Deaf_own Aside aside_setCell Leavers Past)
open Go.ConcR (Payload WgAt KK stA smA rd wr mk ofEvent_cell)
open Go.ConcN (upd upd_same upd_ne WgLive sumTo RelBy Deaf_still)
open Go.CJ (CJ OkW Ok0)
set_option linter.unusedVariables false
set_option linter.unusedSimpArgs false
set_option linter.unusedSectionVars false
def kidW (N0 bx : Nat) (A : World) : World := { A with heap := A.heap.mapIdx fun b o => if b < N0 ∨ b = bx then o else pz, tape := mkT [] }
def handW (A : World) (bx v : Nat) : World := setT (hideB A bx) 4 v
theorem kidW_get (N0 bx : Nat) (A : World) (b : Nat) : (kidW N0 bx A).heap[b]? = (A.heap[b]?).map fun o => if b < N0 ∨ b = bx then o else pz := by simp [kidW]
theorem kidW_at {N0 bx : Nat} {A : World} {b : Nat} (h : b < N0 ∨ b = bx) : (kidW N0 bx A).heap[b]? = A.heap[b]? := by
  rw [kidW_get]
  cases A.heap[b]? with
  | none => rfl
  | some o => simp [h]
theorem kidW_seen {N0 bx : Nat} {A : World} {b : Nat} : Seen (kidW N0 bx A) b ↔ Seen A b ∧ (b < N0 ∨ b = bx) := by
  have hs : (kidW N0 bx A).heap.size = A.heap.size := by simp [kidW]
  constructor
  · rintro ⟨h1, h2⟩
    rw [hs] at h1
    by_cases h : b < N0 ∨ b = bx
    · rw [kidW_at h] at h2; exact ⟨⟨h1, h2⟩, h⟩
    · exact absurd (by rw [kidW_get, Array.getElem?_eq_getElem h1]; simp [h]) h2
  · rintro ⟨⟨h1, h2⟩, h⟩
    exact ⟨by rw [hs]; exact h1, by rw [kidW_at h]; exact h2⟩
theorem kidW_sees {N0 bx : Nat} {A w : World} (h : Sees A w) : Sees (kidW N0 bx A) w := by
  have hs : (kidW N0 bx A).heap.size = A.heap.size := by simp [kidW]
  refine ⟨h.os, h.output, by rw [hs]; exact h.size, fun b hb => ?_, fun b at_ u e => ?_⟩
  · rw [hs] at hb
    by_cases h2 : b < N0 ∨ b = bx
    · rw [kidW_at h2]; exact h.vis b hb
    · refine .inr (.inl ?_)
      rw [kidW_get, Array.getElem?_eq_getElem hb]; simp [h2]
  · by_cases h2 : b < N0 ∨ b = bx
    · rw [kidW_at h2] at e; exact h.nv _ _ _ e
    · rw [kidW_get] at e
      cases h3 : A.heap[b]? with
      | none => rw [h3] at e; cases e
      | some o => rw [h3] at e; simp [h2, pz] at e
theorem kidW_ro {N0 bx : Nat} {A : World} {b : Nat} (hb : b < N0) (h : Ro A b) : Ro (kidW N0 bx A) b := let ⟨c, T, e, h2⟩ := h; ⟨c, T, (kidW_at (.inl hb)).trans e, h2⟩
section
variable [Payload]
def Kid (ph : Ph) (child : Goroutine) (bx : Nat) (val : Value) (i : Nat) (B : World) : Prop := @GoJ (compW ph.C ph.n ph.sz i ph.TT (ph.Out i) bx val Payload.ety) ph.P (StopW ph bx val) child B
variable {ph : Ph} {g g' child : Goroutine} {A A' : World} {gs : Array Goroutine} {w w' : World} {t : Trace} {D : Nat → WS} {bx : Nat} {val : Value}
theorem σf_push {N : Nat} {x' : WS} (h0 : ph.s0 ≤ N) : σf ph (N + 1) (upd D N x') = upd (σf ph N D) (N - ph.s0) x'.stage := by
  funext i
  unfold σf
  by_cases e : i = N - ph.s0
  · subst e
    rw [upd_same, show ph.s0 + (N - ph.s0) = N by omega, if_pos (by omega), upd_same]
  · rw [upd_ne _ _ e]
    by_cases h : ph.s0 + i < N
    · rw [if_pos h, if_pos (by omega), upd_ne D _ (by omega)]
    · rw [if_neg h, if_neg (by omega)]
theorem pm_spawn (hG : Geo ph) (I : PInv ph g A gs w t D) (h4 : g0 A = 4) (hv : g1 A < ph.n) (hbx : A.heap[bx]? = some (.cells #[val] Payload.ety (0, 0))) (hN0 : ph.N0 ≤ bx) (hkid : Kid ph child bx val (g1 A) (kidW ph.N0 bx A)) {x y : MemOp} (hx : x.g = 0 ∧ x.act = .go gs.size) (hy : y.g = gs.size ∧ y.act = .start) :
    ∃ D', PInv ph g' (handW A bx (g1 A + 1)) ((gs.setIfInBounds 0 g').push child) w (t ++ #[x, y]) D' := by
  have h := I.sta.com
  obtain ⟨st, sm, h1, h2⟩ := I.sta.md
  have hnum := I.num
  rw [h4] at h2 hnum
  have hN : gs.size = ph.s0 + g1 A := hnum.2.1 rfl
  obtain ⟨rfl, rfl, h3, _⟩ := h2.atOpn (by omega)
  have hs1 := h.s1
  have hsz0 : ∀ k b, gs.size ≤ k → ¬ (D k).ob b := fun k b hk => h.nob k (.inr hk) b
  have hk0 : 0 < gs.size := (Array.getElem?_eq_some_iff.1 I.at0).1
  have hseen : Seen A bx := ⟨(Array.getElem?_eq_some_iff.1 hbx).1, by rw [hbx]; simp [pz]⟩
  have hm : ∀ op ∈ #[x, y], op = x ∨ op = y := by intro op hop; simpa using hop
  have hst : ∀ op ∈ #[x, y], op.act ≠ .mark .disable ∧ op.act ≠ .mark .enable := by
    intro op hop
    rcases hm op hop with rfl | rfl
    · rw [hx.2]; exact ⟨by simp, by simp⟩
    · rw [hy.2]; exact ⟨by simp, by simp⟩
  have hdeaf : ∀ k, Deaf (t ++ #[x, y]) k = Deaf t k := fun k => Deaf_still t k _ hst
  obtain ⟨T, A1, he, het, hF⟩ := hkid
  have hk1 : ∀ b, Seen A1 b ↔ Seen A b ∧ (b < ph.N0 ∨ b = bx) := fun b => by rw [← Seen.ext he, kidW_seen]
  have hx1 : g0 A1 = 0 := by unfold g0; rw [← het]; rfl
  have hri : gs.size - ph.s0 = g1 A := by omega
  have hsit : Sit ph gs.size ⟨8, T, A1, A1, [], (· = bx), bx, val⟩ 8 child w 0 := by
    refine .go (by unfold FitsW; rw [hri]; exact hF) ((kidW_sees I.sees).ext he) (Rds.ext' he fun b hb => ?_) (fun hs => I.noC ((hk1 _).1 hs).1) (fun hs => I.noWg ((hk1 _).1 hs).1) (.inl hx1) (fun b hb hs => ?_) fun b hb hs => I.low0 b hb ((hk1 b).1 hs).1
    · exact (I.rds b hb).imp (kidW_ro hb) fun hn hs => hn (kidW_seen.1 hs).1
    · exact (((hk1 b).1 hs).2).resolve_left (by omega)
  generalize hX : (⟨8, T, A1, A1, [], (· = bx), bx, val⟩ : WS) = X at hsit
  have e8 : X.stage = 8 := by rw [← hX]
  have eA : X.A = A1 := by rw [← hX]
  have eob : ∀ b, X.ob b ↔ b = bx := fun b => by rw [← hX]
  have ebx : X.bx = bx := by rw [← hX]
  have hsz : ((gs.setIfInBounds 0 g').push child).size = gs.size + 1 := by simp
  have hge : ∀ k, 1 ≤ k → k < gs.size → ((gs.setIfInBounds 0 g').push child)[k]? = gs[k]? := fun k hk1 hk2 => by
    rw [Array.getElem?_push_lt (by simpa using hk2), ← Array.getElem?_eq_getElem, Array.getElem?_setIfInBounds_ne (by omega)]
  have hob : ∀ k b, (upd D gs.size X k).ob b → (k = gs.size ∧ b = bx) ∨ (k ≠ gs.size ∧ (D k).ob b) := fun k b hb => by
    by_cases e : k = gs.size
    · subst e; rw [upd_same] at hb; exact .inl ⟨rfl, (eob b).1 hb⟩
    · rw [upd_ne D _ e] at hb; exact .inr ⟨e, hb⟩
  have hobl : ∀ k b, (upd D gs.size X k).ob b → ph.N0 ≤ b ∧ b < w.heap.size := fun k b hb => by
    rcases hob k b hb with ⟨rfl, rfl⟩ | ⟨_, hb⟩
    · exact ⟨hN0, Nat.lt_of_lt_of_le hseen.1 I.sees.size⟩
    · exact h.obl k b hb
  have hoba : ∀ k k' b, k ≠ k' → (upd D gs.size X k).ob b → ¬ (upd D gs.size X k').ob b := fun k k' b hne hb hb' => by
    rcases hob k b hb with ⟨rfl, rfl⟩ | ⟨_, hb⟩ <;> rcases hob k' b hb' with ⟨rfl, h5⟩ | ⟨_, hb'⟩
    · exact hne rfl
    · exact I.mob k' _ hb' hseen
    · subst h5; exact I.mob k _ hb hseen
    · exact h.oba k k' b hne hb hb'
  refine ⟨upd D gs.size X, ⟨?_, ⟨⟨h.s1, by rw [hsz]; have := h.szl; omega, by rw [hsz]; omega, fun k hk1 hk2 => ?_, fun k hk1 hk2 => ?_, fun k hk b hb => ?_, fun k hk1 hk2 hk3 => ?_, fun k hk1 hk2 hk3 => ?_, hobl, hoba, fun k hk1 hk2 => ?_, h.cells, h.live, h.vis0, h.os0, h.out0, ?_, fun k hk => ?_, fun op hop => ?_, h.same⟩, _, _, h1, ?_⟩, ?_, fun b hb => ?_, fun hs => I.noC (hideB_seen hs).1, fun hs => I.noWg (hideB_seen hs).1, fun b hb hs => I.low0 b hb (hideB_seen hs).1, fun k b hb hs => ?_, ?_, ?_⟩⟩
  · rw [Array.getElem?_push_lt (by simpa using hk0), ← Array.getElem?_eq_getElem]
    simp [hk0]
  · rw [hsz] at hk2
    by_cases e : k = gs.size
    · subst e
      refine ⟨child, by rw [show gs.size = (gs.setIfInBounds 0 g').size by simp, Array.getElem?_push_size], ?_⟩
      rw [upd_same, hdeaf, h.above _ (Nat.le_refl _), e8]
      exact hsit
    · obtain ⟨gk, hgk, hs⟩ := h.wk k hk1 (by omega)
      exact ⟨gk, (hge k hk1 (by omega)).trans hgk, by rw [upd_ne D _ e, hdeaf]; exact hs⟩
  · rw [upd_ne D _ (by have := h.szl; omega)]; exact h.old k hk1 hk2
  · rw [hsz] at hk
    rcases hob k b hb with ⟨rfl, rfl⟩ | ⟨_, hb⟩
    · have := h.szl; omega
    · exact h.nob k (by omega) b hb
  · rw [hsz] at hk2
    by_cases e : k = gs.size
    · subst e
      rw [upd_same, e8, eA, hx1] at hk3
      omega
    · rw [upd_ne D _ e] at hk3 ⊢; exact h.rcd k hk1 (by omega) hk3
  · rw [hsz] at hk2
    by_cases e : k = gs.size
    · subst e
      rw [upd_same, e8] at hk3
      omega
    · rw [upd_ne D _ e] at hk3
      obtain ⟨r, hr⟩ := h.rel k hk1 (by omega) hk3
      refine ⟨r, hr.appNot fun op hop => ?_⟩
      rcases hm op hop with rfl | rfl
      · rw [hx.1]; omega
      · rw [hy.1]; omega
  · rw [hsz] at hk2
    by_cases e : k = gs.size
    · subst e; rw [upd_same]; exact (eob _).2 ebx
    · rw [upd_ne D _ e]; exact h.bxo k hk1 (by omega)
  · rw [hsz]
    refine CJ.fork (apart_of hG (fun k b hb => (hobl k b hb).1) hoba) h.szl (h.ct.congr fun k hk1 hk2 l => ?_) hx hy (by rw [I.deaf, h4]; rfl) (by omega)
    unfold OwnP
    rw [upd_ne D _ (by omega)]
  · rw [hsz] at hk
    rw [hdeaf]; exact h.above k (by omega)
  · rcases Array.mem_append.1 hop with h5 | h5
    · exact h.low op h5
    · rcases hm op h5 with rfl | rfl
      · rw [hx.2]; trivial
      · rw [hy.2]; trivial
  · rw [hsz, σf_push h.szl, e8]
    have hin : gs.size - ph.s0 < ph.n := by omega
    have hst9 : σf ph gs.size D (gs.size - ph.s0) = 9 := by
      unfold σf
      rw [if_neg (by omega)]
    have hV : Vc ph.n (upd (σf ph gs.size D) (gs.size - ph.s0) 8) = Vc ph.n (σf ph gs.size D) := by
      have := Vc_upd (σf ph gs.size D) 8 hin
      rw [hst9] at this
      have c9 : cnt 9 = 1 := rfl
      have c8 : cnt 8 = 1 := rfl
      omega
    rw [← hV]
    refine Md.opn (.inr (.inl rfl)) (fun i hi => ?_) (fun e => by cases e)
    by_cases e : i = gs.size - ph.s0
    · subst e; rw [upd_same]; omega
    · rw [upd_ne _ _ e]; exact h3 i hi
  · have := hideB_sees I.sees bx
    exact ⟨this.os, this.output, this.size, this.vis, this.nv⟩
  · rcases I.rds b hb with h5 | h5
    · obtain ⟨c, T, e, h6⟩ := h5
      exact .inl ⟨c, T, (hideB_get (by omega)).trans e, h6⟩
    · exact .inr fun hs => h5 (hideB_seen hs).1
  · rcases hob k b hb with ⟨rfl, rfl⟩ | ⟨_, hb⟩
    · exact (hideB_seen hs).2 rfl
    · exact I.mob k b hb (hideB_seen hs).1
  · rw [hsz]
    refine ⟨fun e => ?_, fun _ => ?_, fun e => ?_⟩
    · have : (4 : Nat) ≤ 3 := e
      omega
    · show gs.size + 1 = ph.s0 + (g1 A + 1)
      omega
    · have : (5 : Nat) ≤ 4 := e
      omega
  · rw [hdeaf, I.deaf, h4]; rfl
end
end Go.Dw.J
end
section
namespace Go.Dw.J
open Go.Dw Go.RowKit
open Go.Conc (G crowd Goes Deaf QuitsD awake awake_of crowd_pick runT_crowd_go woken woken_run Deaf_other Deaf_own Aside aside_setCell Leavers Past semEvents)
open Go.ConcR (Payload WgAt KK stA smA rd wr mk ofEvent_cell)
open Go.ConcN (upd upd_same upd_ne WgLive sumTo RelBy Deaf_still)
open Go.CJ (CJ OkW Ok0)
set_option linter.unusedVariables false
set_option linter.unusedSimpArgs false
set_option linter.unusedSectionVars false
theorem pull_blocked {g : Goroutine} (hs : g.status = .running) (ho : g.offers = none) (w : World) : ({ g with status := .blocked } : Goroutine).again w = g := by
  obtain ⟨fr, cs, stt, dy, off⟩ := g
  simp only at hs ho
  subst hs ho
  simp [Goroutine.again]
theorem Vc_some {n : Nat} {σ : Nat → Nat} (h : 1 ≤ Vc n σ) : ∃ i, i < n ∧ 5 ≤ σ i := by
  refine Classical.byContradiction fun hn => ?_
  have : ∀ i, i < n → (fun x => cnt (σ x)) i ≤ 0 := fun i hi => by
    have : ¬ 5 ≤ σ i := fun h5 => hn ⟨i, hi, h5⟩
    simp [cnt, this]
  have := Go.ConcN.sumTo_le this
  simp only [Vc] at h
  omega
section
variable [Payload] {ph : Ph} {g g' : Goroutine} {A A' : World}
theorem Md.atSem {n v : Nat} {σ : Nat → Nat} {st sm : Int} {s : Nat} (h : Md n σ s v st sm) (hs : s = 6) : (sm = 0 ∧ ∃ i, i < n ∧ (5 ≤ σ i ∨ σ i = 4 ∨ σ i = 3 ∨ σ i = 2)) ∨ (sm = 1 ∧ st = 0 ∧ ∀ i, i < n → σ i = 1) := by
  cases h with
  | pre h1 h2 => omega
  | opn h1 _ _ => omega
  | reg h1 h2 h3 =>
    obtain ⟨i, hi, h5⟩ := Vc_some h3
    exact .inl ⟨rfl, i, hi, .inl h5⟩
  | last L h1 h2 h3 h4 => exact .inl ⟨rfl, L, h2, .inr h3⟩
  | sema h1 h2 => exact .inr ⟨rfl, rfl, h2⟩
  | fin h1 _ => omega
theorem pm_sema (hG : Geo ph) (hn : ph.n < 2147483648) (hr : g.status = .running) (ho : g.offers = none) (h6 : g0 A = 6)
    (hb : ∀ w st, WgAt ph.ty ph.Wg w st 0 → stepG ph.P true g w = .go { g with status := .blocked } w #[])
    (ht : ∀ w st, WgAt ph.ty ph.Wg w st 1 → stepG ph.P true g w = .go g' (w.setCell (smA ph.Wg) (.int .u32 0)) (semEvents (smA ph.Wg)))
    (hnext : ∀ gs w sl t D, PInv ph g' (setT A 8 0) gs w t D → Runs ph.P ph.Post (crowd gs w sl) t) : ∀ gs w sl t D, PInv ph g A gs w t D → Runs ph.P ph.Post (crowd gs w sl) t := by
  have key : ∀ (N : Nat) (F : Nat → Sz), Acc (FamR Lo N) F →
      (∀ gs w sl t D, fam D = F → gs.size = N → PInv ph { g with status := .blocked } A gs w t D → (∃ st, WgAt ph.ty ph.Wg w st 0) → Runs ph.P ph.Post (crowd gs w sl) t) ∧
      (∀ gs w sl t D, fam D = F → gs.size = N → PInv ph g A gs w t D → Runs ph.P ph.Post (crowd gs w sl) t) := by
    intro N F hF
    induction hF with
    | intro F _ ih =>
      have other : ∀ (q : Goroutine), (q = g ∨ q = { g with status := .blocked }) → ∀ gs w sl t D i x d sl', fam D = F → gs.size = N → PInv ph q A gs w t D → 0 < i → gs[i]? = some x → x.status = .running → stepT ph.P (crowd gs w sl) = runT ph.P (crowd gs (w.at d) sl') i →
          (q = { g with status := .blocked } → ∃ st, WgAt ph.ty ph.Wg w st 0) → Runs ph.P ph.Post (crowd gs w sl) t := by
        intro q hq gs w sl t D i x d sl' hD hN I hpos hi hg hst hsm
        have I' := pinv_at I d
        have hlt : i < gs.size := (Array.getElem?_eq_some_iff.1 hi).1
        have hi0 : (i == 0) = false := by simp; omega
        obtain ⟨q', w', es, x', k1, k2, k3, k4, k5, k6, k7, k8, k9⟩ := wk_all hG hn I'.sta hpos hlt hi hg
        have hrunT := runT_crowd_go (P := ph.P) (sl := sl') (i := i) hi (by rw [hi0]; exact k1)
        have hne : i ≠ 0 := by omega
        have hat : ((gs.map (woken ph.P x q' w')).setIfInBounds i q')[0]? = some (woken ph.P x q' w' q) := by
          rw [Array.getElem?_setIfInBounds_ne hne, Array.getElem?_map, I.at0]; rfl
        have hJ := I'.other hpos hlt hat k2 k4 k5 k6 k7 k8
        have hfam := fam_step (N := N) (hN ▸ hlt) k3
        rw [hD] at hfam
        obtain ⟨IH1, IH2⟩ := ih (fam (upd D i x')) hfam
        refine Runs.step (hst.trans hrunT) ?_
        rcases hq with rfl | rfl
        · rw [woken_run hr] at hJ
          exact IH2 _ _ _ _ _ rfl (by simp [hN]) hJ
        · by_cases hw : (mayWake ph.P x && q'.status != .blocked && q'.status != .waiting) = true
          · have e : woken ph.P x q' w' { g with status := .blocked } = g := by
              unfold Go.Conc.woken
              rw [if_pos hw]
              exact pull_blocked hr ho _
            rw [e] at hJ
            exact IH2 _ _ _ _ _ rfl (by simp [hN]) hJ
          · have e : woken ph.P x q' w' { g with status := .blocked } = { g with status := .blocked } := by
              unfold Go.Conc.woken
              rw [if_neg hw]
            rw [e] at hJ
            refine IH1 _ _ _ _ _ rfl (by simp [hN]) hJ ?_
            obtain ⟨st, sm, h1, h2⟩ := k2.md
            rw [h6] at h2
            rcases h2.atSem rfl with ⟨rfl, _⟩ | ⟨rfl, _⟩
            · exact ⟨st, h1⟩
            · rcases k9 ⟨st, h1⟩ with ⟨st2, h3⟩ | ⟨h3, h4⟩
              · obtain ⟨st3, h5⟩ := hsm rfl
                have h5' : WgAt ph.ty ph.Wg (w.at d) st3 0 := h5
                have := (h3.unique h5').2
                omega
              · exact absurd (by rw [h3, h4]; rfl) hw
      have blk : ∀ gs w sl t D, fam D = F → gs.size = N → PInv ph { g with status := .blocked } A gs w t D → (∃ st, WgAt ph.ty ph.Wg w st 0) → Runs ph.P ph.Post (crowd gs w sl) t := by
        intro gs w sl t D hD hN I hsm
        have hsome : ∃ (i : Nat) (x : Goroutine), gs[i]? = some x ∧ x.status = .running := by
          obtain ⟨st, sm, h1, h2⟩ := I.sta.md
          rw [h6] at h2
          obtain ⟨st3, h5⟩ := hsm
          have hgsz := I.num.2.2 (by omega)
          rcases h2.atSem rfl with ⟨rfl, i, hi, hσ⟩ | ⟨rfl, _⟩
          · have e : σf ph gs.size D i = (D (ph.s0 + i)).stage := by unfold σf; rw [if_pos (by omega)]
            rw [e] at hσ
            have hs1 := I.sta.com.s1
            obtain ⟨x, hx, hs⟩ := I.sta.com.wk (ph.s0 + i) (by omega) (by omega)
            exact ⟨_, x, hx, hs.status.resolve_right fun h => by omega⟩
          · have := (h1.unique h5).2
            omega
        obtain ⟨i, x, d, sl', hi, hg, hst⟩ := crowd_pick (P := ph.P) (w := w) (sl := sl) (com_awake I.sta.com I.at0 (awake_of (.inr (.inl rfl)))) hsome
        rcases Nat.eq_zero_or_pos i with rfl | hpos
        · rw [I.at0] at hi
          cases hi
          cases hg
        · exact other _ (.inr rfl) gs w sl t D i x d sl' hD hN I hpos hi hg hst fun _ => hsm
      refine ⟨blk, fun gs w sl t D hD hN I => ?_⟩
      obtain ⟨i, x, d, sl', hi, hg, hst⟩ := crowd_pick (P := ph.P) (w := w) (sl := sl) (com_awake I.sta.com I.at0 (awake_of (.inl hr))) ⟨0, g, I.at0, hr⟩
      rcases Nat.eq_zero_or_pos i with rfl | hpos
      · rw [I.at0] at hi
        obtain rfl := Option.some.inj hi
        have I' := pinv_at I d
        obtain ⟨st, sm, h1, h2⟩ := I'.sta.md
        have h2' := h2
        rw [h6] at h2'
        rcases h2'.atSem rfl with ⟨rfl, _⟩ | ⟨rfl, rfl, h3⟩
        · have hrunT := runT_crowd_go (P := ph.P) (sl := sl') (i := 0) I.at0 (show stepG ph.P (0 == 0) g (w.at d) = _ from hb _ _ h1)
          refine Runs.step (hst.trans hrunT) (blk _ _ _ _ D hD (by simp [hN]) (pm_book hG I' (.refl _ _) h1 rfl rfl rfl (fun e he => by simp at he) (by simp [deafBehind]) h2 I'.num) ⟨_, h1⟩)
        · have hrunT := runT_crowd_go (P := ph.P) (sl := sl') (i := 0) I.at0 (show stepG ph.P (0 == 0) g (w.at d) = _ from ht _ _ h1)
          have hnum := I'.num
          rw [h6] at hnum
          refine Runs.step (hst.trans hrunT) (hnext _ _ _ _ D (I'.set hG (aside_setCell _ (smA ph.Wg) _) (h1.setSm 0) (fun e he => ?_) (by rw [h6]; rfl) (.fin (.inl rfl) h3) ⟨fun e => by omega, fun e => by omega, fun _ => hnum.2.2 (by omega)⟩))
          simp [semEvents] at he
          rcases he with rfl | rfl | rfl | rfl
          · exact .disable
          · exact .cell _ _ rfl
          · exact .cell _ _ rfl
          · exact .enable
      · exact other _ (.inl rfl) gs w sl t D i x d sl' hD hN I hpos hi hg hst fun e => by
          have : g.status = .blocked := by rw [e]
          rw [hr] at this; cases this
  exact fun gs w sl t D I => (key gs.size (fam D) (famR_acc Lo lo_acc gs.size _)).2 gs w sl t D rfl rfl I
end
end Go.Dw.J
end
section
namespace Go.Dw.J
open Go.Dw Go.RowKit
open Go.Conc (G crowd Goes Deaf QuitsD awake awake_of crowd_pick runT_crowd_go runT_crowd_spawn woken woken_run Deaf_other Deaf_own Aside aside_setCell Leavers Past semEvents)
open Go.ConcR (Payload WgAt KK stA smA rd wr mk ofEvent_cell)
open Go.ConcN (upd upd_same upd_ne WgLive sumTo RelBy Deaf_still)
open Go.CJ (CJ OkW Ok0)
set_option linter.unusedVariables false
set_option linter.unusedSimpArgs false
set_option linter.unusedSectionVars false
theorem bes_quiet [KeepD] {P : Program} {Post : Value → World → Prop} {g : Goroutine} {A : World} (hr : g.status = .running) (h : ∀ w, Sees A w → ∃ g' A' w' es, stepG P true g w = .go g' w' es ∧ Sees A' w' ∧ (A'.tape = A.tape ∧ Turns A w A' w' ∧ ∀ e ∈ es, EvOk A' e) ∧ Bes P Post g' A') : Bes P Post g A :=
  (@Closed.step (comp0 fun _ => True) _ _ (bes_closed (fun _ => True) trivial)) g A ⟨hr, fun w hs _ => let ⟨g', A', w', es, h1, h2, h3, h4⟩ := h w hs; ⟨g', A', w', es, h1, h2, .inl h3, h4⟩⟩
theorem bes_ext [KeepD] {P : Program} {Post : Value → World → Prop} {g : Goroutine} {A A1 : World} (he : Ext A A1) (ht : A1.tape = A.tape) (h : Bes P Post g A) : Bes P Post g A1 := (@Closed.ext (comp0 fun _ => True) _ _ (bes_closed (fun _ => True) trivial)) g A A1 he ht h
section
variable [Payload] [KeepD]
structure OkP (ph : Ph) (J : Goroutine → World → Prop) : Prop where
  go : ∀ (g g' child : Goroutine) (A : World) (bx : Nat) (val : Value), g.status = .running → g0 A = 4 → g1 A < ph.n → A.heap[bx]? = some (.cells #[val] Payload.ety (0, 0)) → ph.N0 ≤ bx → (∀ w, stepG ph.P true g w = .spawn g' child w #[]) → Kid ph child bx val (g1 A) (kidW ph.N0 bx A) → J g' (handW A bx (g1 A + 1)) → J g A
  sema : ∀ (g g' : Goroutine) (A : World), g.status = .running → g.offers = none → g0 A = 6 → (∀ w st, WgAt ph.ty ph.Wg w st 0 → stepG ph.P true g w = .go { g with status := .blocked } w #[]) → (∀ w st, WgAt ph.ty ph.Wg w st 1 → stepG ph.P true g w = .go g' (w.setCell (smA ph.Wg) (.int .u32 0)) (semEvents (smA ph.Wg))) → J g' (setT A 8 0) → J g A
@[instance_reducible] def compP (ph : Ph) : Comp where
  main := true
  inv A w := (g0 A = 2 → WgAt ph.ty ph.Wg w 0 0) ∧ (g0 A = 5 → ∃ v : Nat, v ≤ g1 A ∧ WgAt ph.ty ph.Wg w (v * KK) 0) ∧ (g0 A = 8 → WgAt ph.ty ph.Wg w 0 0) ∧ (g0 A = 9 → ∃ A', Fin ph A' w) ∧ (g0 A ≠ 0 → WgLive ph.ty ph.Wg w)
  sp := SpP ph
  ok := OkP ph
def JP (ph : Ph) (g : Goroutine) (A : World) : Prop := (g0 A = 0 → Bes ph.P ph.Post g A) ∧ (g0 A ≠ 0 → ∀ gs w sl t D, PInv ph g A gs w t D → Runs ph.P ph.Post (crowd gs w sl) t)
variable {ph : Ph} {g g' : Goroutine} {A A' : World} {gs : Array Goroutine} {w w' : World} {t : Trace} {D : Nat → WS} {es : Array Event}
theorem g0_ext {A A1 : World} (ht : A1.tape = A.tape) : g0 A1 = g0 A := by unfold g0; rw [ht]
theorem g1_ext {A A1 : World} (ht : A1.tape = A.tape) : g1 A1 = g1 A := by unfold g1; rw [ht]
theorem pinv_ext {A1 : World} (he : Ext A A1) (ht : A1.tape = A.tape) (I : PInv ph g A1 gs w t D) : PInv ph g A gs w t D :=
  ⟨I.at0, by rw [← g0_ext ht, ← g1_ext ht]; exact I.sta, I.sees.ext he, I.rds.ext' he, fun hs => I.noC ((Seen.ext he).2 hs), fun hs => I.noWg ((Seen.ext he).2 hs), fun b hb hs => I.low0 b hb ((Seen.ext he).2 hs), fun k b hb hs => I.mob k b hb ((Seen.ext he).2 hs), by rw [← g0_ext ht, ← g1_ext ht]; exact I.num, by rw [← g0_ext ht]; exact I.deaf⟩
theorem pinv_inv (hG : Geo ph) (I : PInv ph g A gs w t D) : (compP ph).inv A w := by
  obtain ⟨st, sm, h1, h2⟩ := I.sta.md
  refine ⟨fun e => ?_, fun e => ?_, fun e => ?_, fun e => ?_, fun _ => ⟨st, sm, h1⟩⟩
  · obtain ⟨rfl, rfl, _⟩ := h2.atPre (by omega); exact h1
  · obtain ⟨rfl, rfl, _, h3⟩ := h2.atOpn (by omega)
    exact ⟨_, h3 e, h1⟩
  · obtain ⟨rfl, rfl, _⟩ := h2.atFin (by omega); exact h1
  · obtain ⟨rfl, rfl, h3⟩ := h2.atFin (by omega)
    exact ⟨_, fin_of hG I.sta.com (I.num.2.2 (by omega)) h3⟩
theorem jp_ok (hG : Geo ph) (hn : ph.n < 2147483648) : OkP ph (JP ph) := by
  refine ⟨fun g g' child A bx val hr h4 hv hbx hN hst hkid hJ => ⟨fun h0 => by omega, fun _ => p_step hG hn hr fun gs w sl t D I => ?_⟩, fun g g' A hr ho h6 hb ht hJ => ⟨fun h0 => by omega, fun _ => pm_sema hG hn hr ho h6 hb ht (hJ.2 (by rw [g0_setT]; omega))⟩⟩
  have hrunT := runT_crowd_spawn (P := ph.P) (sl := sl) (i := 0) I.at0 (show stepG ph.P (0 == 0) g w = _ from hst w)
  have e : ((MemOp.ofEvents 0 g.frame.fn g.frame.place #[]).push { g := 0, fn := g.frame.fn, pos := g.frame.place, act := .go gs.size }).push { g := gs.size, fn := child.frame.fn, pos := g.frame.place, act := .start } = #[({ g := 0, fn := g.frame.fn, pos := g.frame.place, act := .go gs.size } : MemOp), { g := gs.size, fn := child.frame.fn, pos := g.frame.place, act := .start }] := by
    rw [Go.Conc.ofEvents_none]; rfl
  rw [e] at hrunT
  obtain ⟨D', hI'⟩ := pm_spawn (g' := g') (child := child) hG I h4 hv hbx hN hkid (x := { g := 0, fn := g.frame.fn, pos := g.frame.place, act := .go gs.size }) (y := { g := gs.size, fn := child.frame.fn, pos := g.frame.place, act := .start }) ⟨rfl, rfl⟩ ⟨rfl, rfl⟩
  exact .inl ⟨_, _, hrunT, hJ.2 (by rw [show g0 (handW A bx (g1 A + 1)) = 4 from rfl]; omega) _ _ _ _ _ hI'⟩
theorem jp_closed (hG : Geo ph) (hK : KeepP ph) (hn : ph.n < 2147483648) : @Closed (compP ph) ph.P (JP ph) := by
  letI := compP ph
  refine ⟨fun g A ⟨hr, h⟩ => ⟨fun h0 => ?_, fun h0 => p_step hG hn hr fun gs w sl t D I => ?_⟩, fun g A A1 he ht hJ => ⟨fun h0 => ?_, fun h0 gs w sl t D I => hJ.2 (by rw [← g0_ext ht]; exact h0) gs w sl t D (pinv_ext he ht I)⟩, jp_ok hG hn⟩
  · refine bes_quiet hr fun w hs => ?_
    obtain ⟨g', A', w', es, h1, h2, h3, h4⟩ := h w hs ⟨fun e => by omega, fun e => by omega, fun e => by omega, fun e => by omega, fun e => absurd h0 e⟩
    rcases h3 with ⟨e1, e2, e3⟩ | h3
    · exact ⟨g', A', w', es, h1, h2, ⟨e1, e2, e3⟩, h4.1 (by rw [g0_ext e1]; exact h0)⟩
    · exact absurd h0 (by cases h3 <;> omega)
  · obtain ⟨g', A', w', es, h1, h2, h3, h4⟩ := h w I.sees (pinv_inv hG I)
    have hrunT := runT_crowd_go (P := ph.P) (sl := sl) (i := 0) I.at0 (show stepG ph.P (0 == 0) g w = _ from h1)
    rcases h3 with ⟨e1, e2, e3⟩ | h3
    · exact .inl ⟨_, _, hrunT, h4.2 (by rw [g0_ext e1]; exact h0) _ _ _ _ _ (pm_quiet hG I h2 e1 e2 e3)⟩
    · by_cases h9 : g0 A = 9
      · cases h3 with
        | acquire e1 hF e3 e4 =>
          subst e3 e4
          obtain ⟨q, hB⟩ := pm_acquire (g' := g') hG hK I h9 hF
          exact .inl ⟨_, _, hrunT, h4.1 (by unfold g0; rw [hF.tape]; rfl) _ _ _ _ q _ hB⟩
        | disable e1 => omega
        | add e1 => omega
        | read e1 => omega
        | enable e1 => omega
        | disable2 e1 => omega
        | load0 e1 => omega
        | load v e1 => omega
        | hit v e1 => omega
        | write e1 => omega
        | load2 e1 => omega
        | enable2 e1 => omega
      · obtain ⟨k1, k2⟩ := pm_sp (g' := g') hG I h3 h9
        exact .inl ⟨_, _, hrunT, h4.2 k1 _ _ _ _ D k2⟩
  · exact bes_ext he ht (hJ.1 (by rw [← g0_ext ht]; exact h0))
end
end Go.Dw.J
end
section
namespace Go.Dw.J
open Go.Dw Go.RowKit
open Go.Conc (G crowd Goes Deaf QuitsD awake awake_of crowd_pick runT_crowd_go runT_crowd_spawn woken woken_run woken_quitsD Deaf_other Deaf_own Aside aside_setCell Leavers Past semEvents)
open Go.ConcR (Payload WgAt wgBlock KK stA smA rd wr mk ofEvent_cell)
open Go.ConcN (upd upd_same upd_ne WgLive sumTo RelBy Deaf_still)
open Go.CJ (CJ OkW Ok0)
set_option linter.unusedVariables false
set_option linter.unusedSimpArgs false
set_option linter.unusedSectionVars false
def roO : Obj → Obj
  | .cells c T fr => if c.size = 0 then pz else ro c T
  | _ => pz
theorem roO_seen {o : Obj} (h : roO o ≠ pz) : ∃ c T fr, o = .cells c T fr ∧ 0 < c.size ∧ roO o = ro c T := by
  cases o with
  | cells c T fr =>
    by_cases h0 : c.size = 0
    · exact absurd (by simp [roO, h0]) h
    · exact ⟨c, T, fr, rfl, by omega, by simp [roO, h0]⟩
  | _ => exact absurd rfl h
def padW (A : World) (N : Nat) : World := { A with heap := A.heap ++ Array.replicate (N - A.heap.size) pz }
theorem padW_ext (A : World) (N : Nat) : Ext A (padW A N) := ⟨_, rfl, rfl, rfl⟩
theorem padW_size {A : World} {N : Nat} (h : A.heap.size ≤ N) : (padW A N).heap.size = N := by simp [padW]; omega
def startW (A0 : World) (C : Nat) : World := { A0 with heap := (A0.heap.mapIdx fun b o => if b = C then pz else roO o).push pz, tape := mkT [1, 0] }
section
variable {A0 w : World} {C : Nat}
theorem start_size : (startW A0 C).heap.size = A0.heap.size + 1 := by simp [startW]
theorem start_get {b : Nat} {o : Obj} (h : A0.heap[b]? = some o) : (startW A0 C).heap[b]? = some (if b = C then pz else roO o) := by
  have hb := (Array.getElem?_eq_some_iff.1 h).1
  unfold startW
  rw [Array.getElem?_push_lt (by simpa using hb), ← Array.getElem?_eq_getElem, Array.getElem?_mapIdx, h]
  rfl
theorem start_last : (startW A0 C).heap[A0.heap.size]? = some pz := by
  unfold startW
  rw [show A0.heap.size = (A0.heap.mapIdx fun b o => if b = C then pz else roO o).size by simp, Array.getElem?_push_size]
theorem start_seen {b : Nat} (h : Seen (startW A0 C) b) : b < A0.heap.size ∧ b ≠ C ∧ Seen A0 b ∧ Ro (startW A0 C) b := by
  obtain ⟨h1, h2⟩ := h
  rw [start_size] at h1
  rcases Nat.lt_or_ge b A0.heap.size with hb | hb
  · have e := Array.getElem?_eq_getElem hb
    rw [start_get e] at h2
    by_cases hC : b = C
    · subst hC; simp at h2
    · rw [if_neg hC] at h2
      obtain ⟨c, T, fr, h3, h4, h5⟩ := roO_seen (fun e => h2 (by rw [e]))
      refine ⟨hb, hC, ⟨hb, ?_⟩, c, T, ?_, h4⟩
      · rw [e, h3]
        intro e2
        simp [pz] at e2
        rw [e2.1] at h4; simp at h4
      · rw [start_get e, if_neg hC, h5]
  · obtain rfl : b = A0.heap.size := by omega
    exact absurd start_last h2
theorem start_vis {x y : Obj} (h : Vis (some x) (some y)) : Vis (some (roO x)) (some y) := by
  by_cases hx : roO x = pz
  · exact .inr (.inl (by rw [hx]))
  · obtain ⟨c, T, fr, rfl, h2, h3⟩ := roO_seen hx
    rw [h3]
    rcases h with h | h | ⟨c', T', fr', h, h'⟩
    · cases h; exact .inr (.inr ⟨c, T, fr, rfl, rfl⟩)
    · simp [pz] at h
      rw [h.1] at h2; simp at h2
    · simp [ro] at h
      obtain ⟨rfl, rfl, _⟩ := h
      exact .inr (.inr ⟨_, _, fr', rfl, h'⟩)
theorem start_sees (h : Sees A0 w) (hs : A0.heap.size + 1 ≤ w.heap.size) : Sees (startW A0 C) w := by
  refine ⟨h.os, h.output, by rw [start_size]; exact hs, fun b hb => ?_, fun b at_ u e => ?_⟩
  · rw [start_size] at hb
    rcases Nat.lt_or_ge b A0.heap.size with h1 | h1
    · have e := Array.getElem?_eq_getElem h1
      rw [start_get e]
      by_cases hC : b = C
      · rw [if_pos hC]; exact .inr (.inl rfl)
      · rw [if_neg hC]
        have := h.vis b h1
        rw [e] at this
        obtain ⟨y, hy⟩ : ∃ y, w.heap[b]? = some y := ⟨_, Array.getElem?_eq_getElem (by omega)⟩
        rw [hy] at this ⊢
        exact start_vis this
    · obtain rfl : b = A0.heap.size := by omega
      rw [start_last]; exact .inr (.inl rfl)
  · have hb := (Array.getElem?_eq_some_iff.1 e).1
    by_cases hse : Seen (startW A0 C) b
    · obtain ⟨_, _, _, c, T, h3, _⟩ := start_seen hse
      rw [h3] at e; simp [ro] at e
    · have : (startW A0 C).heap[b]? = some pz := Classical.byContradiction fun hn => hse ⟨hb, hn⟩
      rw [this] at e; simp [pz] at e
end
section
variable [Payload] [KeepD]
theorem bes_phase {P : Program} {Post : Value → World → Prop} {g : Goroutine} {A : World} (hr : g.status = .running) {ty : TypeId} {n C sz : Nat} {TT : TypeId} {Out : Nat → List Value → World → Prop} (g' : Nat → Goroutine)
    (hst : ∀ w, stepG P true g w = .go (g' w.heap.size) (w.alloc (wgBlock ty 0 0)) #[]) (hC : Seen A C) (hCB : KeepD.B0 ≤ C) (hCn : n ≠ 0 → ∃ cs, A.heap[C]? = some (.cells cs TT (0, 0)) ∧ cs.size = n * sz ∧ 0 < cs.size)
    (h : ∀ Wg s0 Shun W0, A.heap.size ≤ Wg → Geo ⟨P, Post, ty, n, C, sz, TT, Out, Wg, s0, Shun, padW A Wg, W0⟩ → KeepP ⟨P, Post, ty, n, C, sz, TT, Out, Wg, s0, Shun, padW A Wg, W0⟩ → JP ⟨P, Post, ty, n, C, sz, TT, Out, Wg, s0, Shun, padW A Wg, W0⟩ (g' Wg) (startW (padW A Wg) C)) : Bes P Post g A := by
  refine bes_step hr fun gs w sl t q Shun I => ?_
  have hA : A.heap.size ≤ w.heap.size := I.sees.size
  have hpad : (padW A w.heap.size).heap.size = w.heap.size := padW_size hA
  have hext := padW_ext A w.heap.size
  have hnvA : ∀ (b : Nat) (at_ : Addr) (u : TypeId), (padW A w.heap.size).heap[b]? ≠ some (.view at_ u) := fun b at_ u e => by
    have hb := (Array.getElem?_eq_some_iff.1 e).1
    rcases Nat.lt_or_ge b A.heap.size with h1 | h1
    · rw [hext.get h1] at e; exact I.sees.nv _ _ _ e
    · rw [hext.new h1 hb] at e; cases e
  have hG : Geo ⟨P, Post, ty, n, C, sz, TT, Out, w.heap.size, gs.size, Shun, padW A w.heap.size, w⟩ :=
    ⟨Nat.lt_of_lt_of_le hC.1 hA, (Seen.ext hext).2 hC, hpad, fun l b hl hb => ⟨(I.hid l b hl hb).1, fun hs => (I.hid l b hl hb).2 ((Seen.ext hext).1 hs)⟩, I.lies, hnvA⟩
  have hK : KeepP ⟨P, Post, ty, n, C, sz, TT, Out, w.heap.size, gs.size, Shun, padW A w.heap.size, w⟩ := by
    refine ⟨I.keep.1, hCB, fun b hb => ?_⟩
    rcases I.keep.2 b hb with ⟨h1, h2⟩ | ⟨h1, h2⟩
    · exact .inl ⟨(Seen.ext hext).2 h1, (hext.get h1.1).trans h2⟩
    · exact .inr ⟨fun hs => h1 ((Seen.ext hext).1 hs), h2⟩
  have hJ := (h w.heap.size gs.size Shun w hA hG hK).2 (by show (1 : Nat) ≠ 0; omega)
  have hrunT := runT_crowd_go (P := P) (sl := sl) (i := 0) I.at0 (show stepG P (0 == 0) g w = _ from hst w)
  have hk : 0 < gs.size := (Array.getElem?_eq_some_iff.1 I.at0).1
  rw [Go.Conc.ofEvents_none] at hrunT
  have hwn : ∀ b, b < w.heap.size → (w.alloc (wgBlock ty 0 0)).heap[b]? = w.heap[b]? := fun b hb => by
    unfold World.alloc
    rw [Array.getElem?_push_lt hb, ← Array.getElem?_eq_getElem]
  have hwW : (w.alloc (wgBlock ty 0 0)).heap[w.heap.size]? = some (wgBlock ty 0 0) := by unfold World.alloc; exact Array.getElem?_push_size
  have hws : (w.alloc (wgBlock ty 0 0)).heap.size = w.heap.size + 1 := by show (w.heap.push _).size = _; rw [Array.size_push]
  refine .inl ⟨_, _, hrunT, ?_⟩
  rw [show t ++ (#[] : Trace) = t by simp]
  have hsz : ((gs.map (woken P g (g' w.heap.size) (w.alloc (wgBlock ty 0 0)))).setIfInBounds 0 (g' w.heap.size)).size = gs.size := by simp
  have hsees0 : Sees (padW A w.heap.size) (w.alloc (wgBlock ty 0 0)) := by
    refine ⟨I.sees.os, I.sees.output, by rw [hpad, hws]; omega, fun b hb => ?_, hnvA⟩
    rw [hpad] at hb
    rw [hwn b hb]
    rcases Nat.lt_or_ge b A.heap.size with h1 | h1
    · rw [hext.get h1]; exact I.sees.vis b h1
    · rw [hext.new h1 (by rw [hpad]; exact hb)]; exact .inr (.inl rfl)
  refine hJ _ _ _ _ (fun k => ⟨1, chain (q k), default, default, [], fun _ => False, 0, undef⟩) ⟨by simp [hk], ⟨⟨hk, by rw [hsz]; exact Nat.le_refl _, by rw [hsz]; exact Nat.le_add_right _ _, fun k hk1 hk2 => ?_, fun _ _ _ => rfl, fun _ _ _ hb => hb, fun k hk1 hk2 => ?_, fun k hk1 hk2 => ?_, fun _ _ hb => hb.elim, fun _ _ _ _ hb => hb.elim, fun k hk1 hk2 => ?_, fun hn0 => ?_, ⟨0, 0, hwW⟩, fun b hb hbC => ?_, I.sees.os, I.sees.output, ?_, fun k hk1 => ?_, fun op hop => ?_, fun b hb _ => hwn b hb⟩, 0, 0, hwW, .pre (.inl rfl) fun i hi => ?_⟩, start_sees hsees0 (by rw [hpad, hws]; exact Nat.le_refl _), fun b hb => ?_, fun hs => (start_seen hs).2.1 rfl, fun hs => ?_, fun b hb hs => (start_seen hs).2.2.1, fun k b hb => hb.elim, ⟨fun _ => hsz, fun e => ?_, fun e => ?_⟩, I.past.hears⟩
  · rw [hsz] at hk2
    obtain ⟨x, hx⟩ : ∃ x, gs[k]? = some x := ⟨_, Array.getElem?_eq_getElem hk2⟩
    have hq := I.old.old k x hk1 hx
    refine ⟨x, ?_, .quit rfl hq⟩
    rw [Array.getElem?_setIfInBounds_ne (by omega), Array.getElem?_map, hx, Option.map_some, woken_quitsD hq]
  · rw [hsz] at hk2
    have : gs.size ≤ k := hk1
    omega
  · rw [hsz] at hk2
    have : gs.size ≤ k := hk1
    omega
  · rw [hsz] at hk2
    have : gs.size ≤ k := hk1
    omega
  · obtain ⟨cs, h1, h2, h3⟩ := hCn hn0
    refine ⟨cs, ?_, h2⟩
    have hv := I.sees.vis C hC.1
    rw [h1] at hv
    show (w.alloc (wgBlock ty 0 0)).heap[C]? = _
    rw [hwn C (Nat.lt_of_lt_of_le hC.1 hA)]
    rcases hv with h4 | h4 | ⟨c, T, fr, h4, h5⟩
    · exact h4.symm
    · simp [pz] at h4
      rw [h4.1] at h3; simp at h3
    · simp [ro] at h4
      obtain ⟨rfl, _, h6⟩ := h4
      omega
  · have := hsees0.vis b (by rw [hpad]; exact hb)
    exact this
  · rw [hsz]
    refine CJ.start I.past I.quiet I.gsz (fun l hl => ?_) (fun l hl => .inl hl) (Nat.le_refl _)
    rcases hl with hl | hl
    · exact .inl hl
    · refine .inr fun hlow => ?_
      have h9 : w.heap.size < w.heap.size := low_blk hl hlow
      omega
  · rw [hsz] at hk1
    exact I.old.above k hk1
  · exact MemAct.low_mono (by rw [hws]; omega) (I.past.seen op hop)
  · unfold σf
    rw [hsz, if_neg (by show ¬ gs.size + i < gs.size; omega)]
  · by_cases hs : Seen (startW (padW A w.heap.size) C) b
    · exact .inl (start_seen hs).2.2.2
    · exact .inr hs
  · have := (start_seen hs).1
    rw [hpad] at this
    exact absurd this (Nat.lt_irrefl _)
  · have : (1 : Nat) = 4 := e
    omega
  · have : (5 : Nat) ≤ 1 := e
    omega
end
end Go.Dw.J
end
section
namespace Go.Dw.J
open Go.RowKit Go.Dw Go.Proofs
set_option maxRecDepth 100000
abbrev link : Go.Conc.Lib.WgLink := { add := 39, done := 41, wait := 43, relMerge := 73, disable := 74, enable := 75, inBubble := 76, associate := 77, fatal := 78, uOr := 79, uAdd := 80, raceRead := 81, uLoad := 82, uStore := 83, disassociate := 84, semrelease := 85, acquire := 87, isAssociated := 88, uCas := 89, raceWrite := 90, semacquire := 91, orU64 := 112, addU64 := 113, loadU64 := 114, storeU64 := 115, casU64 := 117, tWgP := 102, tUP := 104, tAssoc := 106, tWg := 70, tAU := 67, tU64 := 65, tUint := 79, tU32 := 68, tPU32 := 110, tPAU := 131, tPU64 := 133, tNoCopy := 62, tANoCopy := 63, tAlign64 := 64 }
theorem wgLib : Go.Conc.Lib.WgLib Try.prog link :=
  ⟨Try.func39, Try.func41, Try.func43, Try.func73, Try.func74, Try.func75, Try.func76, Try.func77, Try.func78, Try.func79, Try.func80, Try.func81, Try.func82, Try.func83, Try.func84, Try.func85, Try.func87, Try.func88, Try.func89, Try.func90, Try.func91, Try.func112, Try.func113, Try.func114, Try.func115, Try.func117, Try.underlying102, Try.runUnderlying102, Try.sizeOf102, Try.isAgg102, Try.zeroValue102, Try.underlying104, Try.runUnderlying104, Try.sizeOf104, Try.isAgg104, Try.zeroValue104, Try.underlying106, Try.runUnderlying106, Try.sizeOf106, Try.isAgg106, Try.zeroValue106, Try.underlying70, Try.runUnderlying70, Try.sizeOf70, Try.isAgg70, Try.zeroValue70, Try.underlying67, Try.runUnderlying67, Try.sizeOf67, Try.isAgg67, Try.zeroValue67, Try.underlying65, Try.runUnderlying65, Try.sizeOf65, Try.isAgg65, Try.zeroValue65, Try.underlying79, Try.runUnderlying79, Try.sizeOf79, Try.isAgg79, Try.zeroValue79, Try.underlying68, Try.runUnderlying68, Try.sizeOf68, Try.isAgg68, Try.zeroValue68, Try.underlying110, Try.runUnderlying110, Try.sizeOf110, Try.isAgg110, Try.zeroValue110, Try.underlying131, Try.runUnderlying131, Try.sizeOf131, Try.isAgg131, Try.zeroValue131, Try.underlying133, Try.runUnderlying133, Try.sizeOf133, Try.isAgg133, Try.zeroValue133, Try.underlying0, Try.runUnderlying0, Try.sizeOf0, Try.isAgg0, Try.zeroValue0, Try.underlying3, Try.runUnderlying3, Try.sizeOf3, Try.isAgg3, Try.zeroValue3, Try.underlying4, Try.runUnderlying4, Try.sizeOf4, Try.isAgg4, Try.zeroValue4, Try.underlying9, Try.runUnderlying9, Try.sizeOf9, Try.isAgg9, Try.zeroValue9, Try.underlying20, Try.runUnderlying20, Try.sizeOf20, Try.isAgg20, Try.zeroValue20, Try.underlying21, Try.runUnderlying21, Try.sizeOf21, Try.isAgg21, Try.zeroValue21, (by kernel_rfl), (by kernel_rfl)⟩
end Go.Dw.J
end
section
namespace Go.Dw.J
open Go.RowKit Go.Dw Go.Proofs
open Go.Conc (G Goes QuitsD aside_setCell Aside semEvents)
open Go.ConcR (Payload WgAt wgBlock KK stA smA rd wr mk)
open Go.ConcR.Gen
open Go.ConcN (WgLive)
set_option linter.unusedSectionVars false
set_option linter.unusedSimpArgs false
set_option linter.unusedVariables false
set_option maxRecDepth 100000
section
variable [Payload] {ph : Ph} {A : World}
theorem setT_sees {A w w' : World} (h : Sees A w) (s v : Nat) : Sees (setT A s v) w := ⟨h.os, h.output, h.size, h.vis, h.nv⟩
theorem aside_sees {ph : Ph} {A w w' : World} (h : Sees A w) (hn : ¬ Seen A ph.Wg) (hA : Aside ph.Wg w w') : Sees A w' := h.still hA.os hA.output (Nat.le_of_eq hA.size.symm) fun b hb => hA.block b fun e => hn (e ▸ hb)
theorem evt (x : Event) (hs : x.sync = true) (hx : ∀ g, x.loc ≠ .mark (.extern g)) : ∀ y ∈ (#[x] : Array Event), y.sync = true ∧ ∀ g, y.loc ≠ .mark (.extern g) := fun y hy => by
  simp at hy; subst hy; exact ⟨hs, hx⟩
theorem e_mark {k : FuncId} {fn : Func} {args : Array Value} {m : Mark} {A' : World} (hf : Try.prog.funcs[k]? = some fn) (hname : (fn.name == "runtime.NumGoroutine") = false) (hb : fn.body.isNone = true) (hn : Extern.findNext fn = none) {e : Array Value → Sem Value} (he : Extern.find fn = some e)
    (hm : ∀ g, m ≠ .extern g) (hr : ∀ w, (e args).run Try.prog w = .ok (.tuple #[]) w) (hev : ∀ w es, (e args).events Try.prog w es = es.push (mk m)) (hsee : ∀ w, Sees A w → Sees A' w) (hsp : ∀ w, SpP ph A w A' w #[mk m]) : @EntryR (compP ph) Try.prog k args A (fun v B => v = .tuple #[] ∧ B = A') := by
  letI := compP ph
  refine entry_step hf hname hb hn he fun w h1 h2 => ⟨.tuple #[], A', w, #[mk m], hr w, by rw [hev]; rfl, evt _ rfl (fun g h => hm g (by simpa [mk] using h)), hsee w h1, .inr (hsp w), rfl, rfl⟩
theorem e_disable1 (h : g0 A = 1) : @EntryR (compP ph) Try.prog 74 #[] A (fun v B => v = .tuple #[] ∧ B = setT A 2 0) :=
  e_mark (m := .disable) Try.func74 (x_disable_n link) (x_disable_b link) (x_disable_x link) (x_disable_f link) (by simp) (fun w => by simp [Extern.Race.none_]) (fun w es => by simp [mk]) (fun w h => setT_sees (w' := w) h 2 0) fun w => .disable h rfl rfl rfl
theorem e_disable2 (h : g0 A = 4) (h1 : g1 A = ph.n) : @EntryR (compP ph) Try.prog 74 #[] A (fun v B => v = .tuple #[] ∧ B = setT A 5 ph.n) :=
  e_mark (m := .disable) Try.func74 (x_disable_n link) (x_disable_b link) (x_disable_x link) (x_disable_f link) (by simp) (fun w => by simp [Extern.Race.none_]) (fun w es => by simp [mk]) (fun w h => setT_sees (w' := w) h 5 ph.n) fun w => .disable2 h h1 rfl rfl rfl
theorem e_enable2 (h : g0 A = 8) : @EntryR (compP ph) Try.prog 75 #[] A (fun v B => v = .tuple #[] ∧ B = setT A 9 0) :=
  e_mark (m := .enable) Try.func75 (x_enable_n link) (x_enable_b link) (x_enable_x link) (x_enable_f link) (by simp) (fun w => by simp [Extern.Race.none_]) (fun w es => by simp [mk]) (fun w h => setT_sees (w' := w) h 9 0) fun w => .enable2 h rfl rfl rfl
theorem e_read (h : g0 A = 3) : @EntryR (compP ph) Try.prog 81 #[.pointer (some ⟨ph.Wg, 1, none⟩)] A (fun v B => v = .tuple #[] ∧ B = A) :=
  e_mark (m := .read (smA ph.Wg)) Try.func81 (x_raceRead_n link) (x_raceRead_b link) (x_raceRead_x link) (x_raceRead_f link) (by simp) (fun w => by simp [Extern.Race.marked, Extern.Race.at_, Extern.Race.none_]) (fun w es => by simp [Extern.Race.marked, Extern.Race.at_, mk, smA]) (fun w h => h) fun w => .read h rfl rfl rfl
theorem e_write (h : g0 A = 6) : @EntryR (compP ph) Try.prog 90 #[.pointer (some ⟨ph.Wg, 1, none⟩)] A (fun v B => v = .tuple #[] ∧ B = A) :=
  e_mark (m := .write (smA ph.Wg)) Try.func90 (x_raceWrite_n link) (x_raceWrite_b link) (x_raceWrite_x link) (x_raceWrite_f link) (by simp) (fun w => by simp [Extern.Race.marked, Extern.Race.at_, Extern.Race.none_]) (fun w es => by simp [Extern.Race.marked, Extern.Race.at_, mk, smA]) (fun w h => h) fun w => .write h rfl rfl rfl
theorem e_acquire (h : g0 A = 9) : @EntryR (compP ph) Try.prog 87 #[.pointer (some ⟨ph.Wg, 0, none⟩)] A (fun v B => v = .tuple #[] ∧ ∃ w, Fin ph B w) := by
  letI := compP ph
  refine entry_step Try.func87 (x_acquire_n link) (x_acquire_b link) (x_acquire_x link) (x_acquire_f link) fun w h1 h2 => ?_
  obtain ⟨A', hF⟩ := h2.2.2.2.1 h
  exact ⟨.tuple #[], A', w, #[mk (.acquire (stA ph.Wg))], by simp [Extern.Race.marked, Extern.Race.at_, Extern.Race.none_], by simp [Extern.Race.marked, Extern.Race.at_, mk, stA], evt _ rfl (fun g h => by simp [mk] at h), hF.sees, .inr (.acquire h hF rfl rfl), rfl, w, hF⟩
theorem e_bubble : @EntryR (compP ph) Try.prog 76 #[] A (fun v B => v = .bool false ∧ B = A) := by
  letI := compP ph
  refine entry_step Try.func76 (x_inBubble_n link) (x_inBubble_b link) (x_inBubble_x link) (x_inBubble_f link) fun w h1 h2 => ?_
  exact ⟨.bool false, A, w, #[], rfl, by simp, by simp, h1, .inl ⟨rfl, Turns.refl A w, by simp⟩, rfl, rfl⟩
theorem e_add (h : g0 A = 2) (hW : ¬ Seen A ph.Wg) (hn : ph.n < 2147483648) : @EntryR (compP ph) Try.prog 113 #[.pointer (some ⟨ph.Wg, 0, none⟩), .int .u64 ((ph.n : Int) * 4294967296)] A (fun v B => v = .int .u64 ((ph.n : Int) * 4294967296) ∧ B = setT A 3 0) := by
  letI := compP ph
  refine entry_step Try.func113 (x_addU64_n link) (x_addU64_b link) (x_addU64_x link) (x_addU64_f link) fun w h1 h2 => ?_
  have hw : WgAt ph.ty ph.Wg w 0 0 := h2.1 h
  have hwr : IntKind.u64.wrap (0 + (ph.n : Int) * 4294967296) = (ph.n : Int) * 4294967296 := by rw [IntKind.wrap_u64]; omega
  have hr := Go.Conc.run_add_entry (P := Try.prog) (k := .u64) (d := (ph.n : Int) * 4294967296) hw.cellSt (hw.thaw 0)
  have he := Go.Conc.events_add_entry (P := Try.prog) (k := .u64) (d := (ph.n : Int) * 4294967296) hw.cellSt (hw.thaw 0) #[⟨.mark (.extern 113), false, true⟩]
  rw [hwr] at hr
  exact ⟨_, setT A 3 0, _, #[rd (stA ph.Wg), wr (stA ph.Wg)], hr, he, Go.Conc.sync_rw _, aside_sees (A := setT A 3 0) (setT_sees (w' := w) h1 3 0) hW (aside_setCell w (stA ph.Wg) _), .inr (.add h rfl rfl rfl), rfl, rfl⟩
theorem run_load_at {w : World} {ad : Addr} {x : Int} (hc : w.cell? ad = some (.int .u64 x)) : ((Extern.Atomic.loadT (.int .u64)) #[.pointer (some ad)]).run Try.prog w = .ok (.int .u64 x) w := by
  change Sem.run Try.prog (do Extern.Atomic.read (.int .u64) (← asAddr (.pointer (some ad)))) w = _
  simp [Extern.Atomic.read, asAddr, hc]
theorem events_load_at {w : World} {ad : Addr} {x : Int} (hc : w.cell? ad = some (.int .u64 x)) (es : Array Event) : ((Extern.Atomic.loadT (.int .u64)) #[.pointer (some ad)]).events Try.prog w es = es.push ⟨.cell ad, false, true⟩ := by
  change Sem.events Try.prog (do Extern.Atomic.read (.int .u64) (← asAddr (.pointer (some ad)))) w _ = _
  simp [Extern.Atomic.read, asAddr, hc, Go.events_load]
theorem e_load (h : g0 A = 5) : @EntryR (compP ph) Try.prog 114 #[.pointer (some ⟨ph.Wg, 0, none⟩)] A (fun v B => ∃ k : Nat, k ≤ g1 A ∧ v = .int .u64 ((k : Int) * 4294967296) ∧ ((k = 0 ∧ B = setT A 8 0) ∨ (1 ≤ k ∧ B = setT A 5 k))) := by
  letI := compP ph
  refine entry_step Try.func114 (x_loadU64_n link) (x_loadU64_b link) (x_loadU64_x link) (x_loadU64_f link) fun w h1 h2 => ?_
  obtain ⟨k, hk, hw⟩ := h2.2.1 h
  have hc := hw.cellSt
  have hr := run_load_at hc
  have he := events_load_at hc #[⟨.mark (.extern 114), false, true⟩]
  rcases Nat.eq_zero_or_pos k with rfl | hp
  · have hw0 : WgAt ph.ty ph.Wg w 0 0 := by simpa using hw
    exact ⟨_, setT A 8 0, w, #[rd (stA ph.Wg)], hr, he, Go.Conc.sync_r _, setT_sees (w' := w) h1 8 0, .inr (.load0 h hw0 rfl rfl rfl), 0, hk, rfl, .inl ⟨rfl, rfl⟩⟩
  · exact ⟨_, setT A 5 k, w, #[rd (stA ph.Wg)], hr, he, Go.Conc.sync_r _, setT_sees (w' := w) h1 5 k, .inr (.load k h hk hw rfl rfl rfl), k, hk, rfl, .inr ⟨hp, rfl⟩⟩
theorem e_load2 (h : g0 A = 8) : @EntryR (compP ph) Try.prog 114 #[.pointer (some ⟨ph.Wg, 0, none⟩)] A (fun v B => v = .int .u64 0 ∧ B = A) := by
  letI := compP ph
  refine entry_step Try.func114 (x_loadU64_n link) (x_loadU64_b link) (x_loadU64_x link) (x_loadU64_f link) fun w h1 h2 => ?_
  have hw : WgAt ph.ty ph.Wg w 0 0 := h2.2.2.1 h
  have hc' : w.cell? ⟨ph.Wg, 0, none⟩ = some (.int .u64 0) := hw.cellSt
  exact ⟨.int .u64 0, A, w, #[rd (stA ph.Wg)], run_load_at hc', events_load_at hc' _, Go.Conc.sync_r _, h1, .inr (.load2 h rfl rfl rfl), rfl, rfl⟩
theorem e_cas {k : Nat} (h : g0 A = 5) (hk : g1 A = k) (hk1 : 1 ≤ k) (hW : ¬ Seen A ph.Wg) : @EntryR (compP ph) Try.prog 117 #[.pointer (some ⟨ph.Wg, 0, none⟩), .int .u64 ((k : Int) * 4294967296), .int .u64 ((k : Int) * 4294967296 + 1)] A (fun v B => (v = .bool true ∧ B = setT A 6 0) ∨ (v = .bool false ∧ ∃ j : Nat, j < k ∧ B = setT A 5 j)) := by
  letI := compP ph
  refine entry_step Try.func117 (x_casU64_n link) (x_casU64_b link) (x_casU64_x link) (x_casU64_f link) fun w h1 h2 => ?_
  obtain ⟨j, hj, hw⟩ := h2.2.1 h
  rw [Go.Conc.casT_eq]
  by_cases e : j = k
  · subst e
    exact ⟨_, setT A 6 0, _, #[rd (stA ph.Wg), wr (stA ph.Wg)], Go.Conc.run_cas_hit_entry hw.cellSt (hw.thaw 0), Go.Conc.events_cas_hit_entry hw.cellSt (hw.thaw 0) _, Go.Conc.sync_rw _, aside_sees (A := setT A 6 0) (setT_sees (w' := w) h1 6 0) hW (aside_setCell w (stA ph.Wg) _), .inr (.hit j h hk1 hw rfl rfl rfl), .inl ⟨rfl, rfl⟩⟩
  · have hne : ¬ ((j : Int) * KK = (k : Int) * 4294967296) := fun he => e (kk_inj he)
    exact ⟨_, setT A 5 j, w, #[rd (stA ph.Wg)], Go.Conc.run_cas_miss_entry hw.cellSt (hw.thaw 0) hne, Go.Conc.events_cas_miss_entry hw.cellSt (hw.thaw 0) hne _, Go.Conc.sync_r _, setT_sees (w' := w) h1 5 j, .inr (.load j h hj hw rfl rfl rfl), .inr ⟨rfl, j, by omega, rfl⟩⟩
end
end Go.Dw.J
end
section
namespace Go.Dw.J
open Go.RowKit Go.Dw Go.Proofs
open Go.Conc (G Goes QuitsD aside_setCell Aside semEvents)
open Go.ConcR (Payload WgAt wgBlock KK stA smA rd wr mk)
open Go.ConcR.Gen
open Go.ConcN (WgLive)
set_option linter.unusedSectionVars false
set_option linter.unusedSimpArgs false
set_option linter.unusedVariables false
set_option maxRecDepth 100000
theorem vfo_70_1 : fieldOff Try.prog 70 1 = some 0 := by kernel_rfl
theorem vfo_70_2 : fieldOff Try.prog 70 2 = some 1 := by kernel_rfl
theorem vfo_67_2 : fieldOff Try.prog 67 2 = some 0 := by kernel_rfl
section
variable [Payload] {ph : Ph} {A : World}
theorem uAdd_c (h : g0 A = 2) (hW : ¬ Seen A ph.Wg) (hn : ph.n < 2147483648) : @CallsR (compP ph) Try.prog 80 #[.pointer (some ⟨ph.Wg, 0, none⟩), .int .u64 ((ph.n : Int) * 4294967296)] A (fun v B => v = .int .u64 ((ph.n : Int) * 4294967296) ∧ B = setT A 3 0) := by
  letI := compP ph
  refine calls_of_wpf (n := 10) Try.func80 rfl Try.ntmps80 rfl ?_
  refine wpf_seq_region (wpo_assign (v := .int .u64 0) rfl rfl (wpo_nil ?_))
  refine wpf_seq_region ?_
  refine wpo_move (v := .pointer (some ⟨ph.Wg, 0, none⟩)) rfl rfl ?_
  refine wpo_nilCheck rfl rfl ?_
  refine wpo_fieldAddr (o' := 0) vfo_67_2 rfl rfl rfl ?_
  refine wpo_move (v := .int .u64 ((ph.n : Int) * 4294967296)) rfl rfl ?_
  refine wpo_entry (vs := [.pointer (some ⟨ph.Wg, 0, none⟩), .int .u64 ((ph.n : Int) * 4294967296)]) (args_cons rfl (args_cons rfl args_nil)) rfl (e_add h hW hn) ?_
  rintro _ _ ⟨rfl, rfl⟩
  refine wpo_assign (v := .int .u64 ((ph.n : Int) * 4294967296)) rfl rfl (wpo_nil (wpf_ret ?_))
  exact ⟨_, res1 rfl rfl, rfl, rfl⟩
theorem uLoad_c (h : g0 A = 5) : @CallsR (compP ph) Try.prog 82 #[.pointer (some ⟨ph.Wg, 0, none⟩)] A (fun v B => ∃ k : Nat, k ≤ g1 A ∧ v = .int .u64 ((k : Int) * 4294967296) ∧ ((k = 0 ∧ B = setT A 8 0) ∨ (1 ≤ k ∧ B = setT A 5 k))) := by
  letI := compP ph
  refine calls_of_wpf (n := 7) Try.func82 rfl Try.ntmps82 rfl ?_
  refine wpf_seq_region (wpo_assign (v := .int .u64 0) rfl rfl (wpo_nil ?_))
  refine wpf_seq_region ?_
  refine wpo_move (v := .pointer (some ⟨ph.Wg, 0, none⟩)) rfl rfl ?_
  refine wpo_nilCheck rfl rfl ?_
  refine wpo_fieldAddr (o' := 0) vfo_67_2 rfl rfl rfl ?_
  refine wpo_entry (vs := [.pointer (some ⟨ph.Wg, 0, none⟩)]) (args_cons rfl args_nil) rfl (e_load h) ?_
  rintro _ B ⟨k, hk, rfl, hB⟩
  refine wpo_assign (v := .int .u64 ((k : Int) * 4294967296)) rfl rfl (wpo_nil (wpf_ret ?_))
  exact ⟨_, res1 rfl rfl, k, hk, rfl, hB⟩
theorem uLoad2_c (h : g0 A = 8) : @CallsR (compP ph) Try.prog 82 #[.pointer (some ⟨ph.Wg, 0, none⟩)] A (fun v B => v = .int .u64 0 ∧ B = A) := by
  letI := compP ph
  refine calls_of_wpf (n := 7) Try.func82 rfl Try.ntmps82 rfl ?_
  refine wpf_seq_region (wpo_assign (v := .int .u64 0) rfl rfl (wpo_nil ?_))
  refine wpf_seq_region ?_
  refine wpo_move (v := .pointer (some ⟨ph.Wg, 0, none⟩)) rfl rfl ?_
  refine wpo_nilCheck rfl rfl ?_
  refine wpo_fieldAddr (o' := 0) vfo_67_2 rfl rfl rfl ?_
  refine wpo_entry (vs := [.pointer (some ⟨ph.Wg, 0, none⟩)]) (args_cons rfl args_nil) rfl (e_load2 h) ?_
  rintro _ _ ⟨rfl, rfl⟩
  refine wpo_assign (v := .int .u64 0) rfl rfl (wpo_nil (wpf_ret ?_))
  exact ⟨_, res1 rfl rfl, rfl, rfl⟩
theorem uCas_c {k : Nat} (h : g0 A = 5) (hk : g1 A = k) (hk1 : 1 ≤ k) (hW : ¬ Seen A ph.Wg) : @CallsR (compP ph) Try.prog 89 #[.pointer (some ⟨ph.Wg, 0, none⟩), .int .u64 ((k : Int) * 4294967296), .int .u64 ((k : Int) * 4294967296 + 1)] A (fun v B => (v = .bool true ∧ B = setT A 6 0) ∨ (v = .bool false ∧ ∃ j : Nat, j < k ∧ B = setT A 5 j)) := by
  letI := compP ph
  refine calls_of_wpf (n := 13) Try.func89 rfl Try.ntmps89 rfl ?_
  refine wpf_seq_region (wpo_assign (v := .bool false) rfl rfl (wpo_nil ?_))
  refine wpf_seq_region ?_
  refine wpo_move (v := .pointer (some ⟨ph.Wg, 0, none⟩)) rfl rfl ?_
  refine wpo_nilCheck rfl rfl ?_
  refine wpo_fieldAddr (o' := 0) vfo_67_2 rfl rfl rfl ?_
  refine wpo_move (v := .int .u64 ((k : Int) * 4294967296)) rfl rfl ?_
  refine wpo_move (v := .int .u64 ((k : Int) * 4294967296 + 1)) rfl rfl ?_
  refine wpo_entry (vs := [.pointer (some ⟨ph.Wg, 0, none⟩), .int .u64 ((k : Int) * 4294967296), .int .u64 ((k : Int) * 4294967296 + 1)]) (args_cons rfl (args_cons rfl (args_cons rfl args_nil))) rfl (e_cas h hk hk1 hW) ?_
  intro v B hB
  refine wpo_assign (v := v) rfl rfl (wpo_nil (wpf_ret ?_))
  exact ⟨_, res1 rfl rfl, hB⟩
theorem wpo_unsafe {n : Nat} {ops : Array Oper} {K : Fr → World → Prop} {l : List Oper} {f : Fr} {ty : TypeId} {pos : String} {aft : Array Edge} {d : Nat} {src dst t : TypeId} {x : Operand} {o : Nat} (hs : Try.prog.underlying src = some (.pointer t)) (hd : Try.prog.underlying dst = some .unsafePointer) (hsz : (Try.prog.info? t).map (fun i => decide (i.size = 0)) = some false)
    (hx : ev f x = .pointer (some ⟨ph.Wg, o, none⟩)) (ho : o = 0 ∨ o = 1) (h0 : g0 A ≠ 0) (hdn : Nat.blt d n = true) (h : @WpO (compP ph) Try.prog n ops K l (up f d (.pointer (some ⟨ph.Wg, o, none⟩))) A) : @WpO (compP ph) Try.prog n ops K (⟨some d, .convert src dst x, ty, pos, aft, none⟩ :: l) f A := by
  letI := compP ph
  intro a ha
  refine Or.inl ⟨by simp [Region.wanted], Or.inr ⟨fun v A' => v = .pointer (some ⟨ph.Wg, o, none⟩) ∧ A' = A, ?_, fun v A' ⟨e1, e2⟩ => ⟨_, ha.put hdn v, by rw [e1, e2]; exact h⟩⟩⟩
  intro J hJ b hb i rest kk cs a2 o' ho' hd' hw' hs' hk'
  refine hJ.step _ _ ⟨rfl, fun w1 hsee hinv => ?_⟩
  obtain ⟨st, sm, hl⟩ := hinv.2.2.2.2 h0
  have hc : ∃ v, w1.cell? ⟨ph.Wg, o, none⟩ = some v := by
    rcases ho with rfl | rfl
    · exact ⟨_, hl.cellSt⟩
    · exact ⟨_, hl.cellSm⟩
  obtain ⟨cv, hc⟩ := hc
  have e1 : execOp a.eval ⟨some d, .convert src dst x, ty, pos, aft, none⟩ = (do pure (.value (← convert src dst (.pointer (some ⟨ph.Wg, o, none⟩)))) : Sem Next) := by
    rw [ha.eval]
    show (do pure (.value (← convert src dst (ev f x))) : Sem Next) = _
    rw [hx]
  have hr : (execOp a2.eval o').run Try.prog w1 = .ok (.value (.pointer (some ⟨ph.Wg, o, none⟩))) w1 := by
    rw [hs', e1, Sem.run_bind, run_convert_to_unsafe hs hd hsz hc]; rfl
  have hev : (execOp a2.eval o').events Try.prog w1 #[] = #[] := by
    rw [hs', e1, Sem.events_bind, run_convert_to_unsafe hs hd hsz hc, Go.Conc.events_convert_to_unsafe hs hd hsz hc]; rfl
  refine ⟨_, A, w1, _, stepG_value ho' hw' hb hr, hsee, .inl ⟨rfl, Turns.refl A w1, fun e he => ?_⟩, by rw [hd']; exact hk' _ _ ⟨rfl, rfl⟩⟩
  have := Go.Conc.mem_seen he
  rw [hev] at this
  simp at this
theorem stepG_halted {P : Program} {main : Bool} {b : Frame} {a : Act} {k : List Item} {cs : List Frame} {w w' : World} {ops : Array Oper} {i : Nat} {rest : List Nat} {o : Oper} (ho : ops[i]? = some o) (hw : Region.wanted o (yielded ops a.tmps) = true) (hnd : ∀ c, o.op ≠ .defer c) (hr : (execOp a.eval o).run P w = .halt .blocked w') :
    stepG P main (G (ato b a (.inRegion ops (i :: rest) :: k)) cs) w = .go { G (ato b a (.inRegion ops (i :: rest) :: k)) cs with status := .blocked } w' #[] := by
  rw [stepG_oper ho hw hnd]
  simp [stepG.apply, hr, G, GStep.after, Go.Conc.seen_none]
theorem e_sema (hP : ph.P = Try.prog) (h6 : g0 A = 6) {x : Value} : @EntryR (compP ph) Try.prog 91 #[.pointer (some ⟨ph.Wg, 1, none⟩), x] A (fun v B => v = .tuple #[] ∧ B = setT A 8 0) := by
  letI := compP ph
  intro ops o J hJ b hbk i rest kk cs a o' ho hd hw hs hk
  have run1 : ∀ w st, WgAt ph.ty ph.Wg w st 1 → (execOp a.eval o').run Try.prog w = .ok (.value (.tuple #[])) (w.setCell (smA ph.Wg) (.int .u32 0)) := fun w st h => by
    have hc : w.cell? ⟨ph.Wg, 1, none⟩ = some (.int .u32 1) := h.cellSm
    have hz := h.thaw 1
    have hr : (Extern.Sync.semacquire #[.pointer (some ⟨ph.Wg, 1, none⟩), x]).run Try.prog w = .ok (.tuple #[]) (w.setCell (smA ph.Wg) (.int .u32 0)) := by
      simp [Extern.Sync.semacquire, Extern.Sync.count, hc, hz, Extern.Sync.none_, run_store Try.prog w ⟨ph.Wg, 1, none⟩ (.int .u32 0) .atomic rfl, Result.andThen, smA]
    rw [hs, Go.run_callFunc_extern Try.func91 (x_semacquire_n link) (x_semacquire_b link) (x_semacquire_x link) (x_semacquire_f link), hr]; rfl
  have hnd : ∀ c, o'.op ≠ .defer c := by
    let w0 : World := { (default : World) with heap := Array.replicate (ph.Wg + 1) (wgBlock ph.ty 0 1) }
    exact not_defer (run1 w0 0 (by show (Array.replicate (ph.Wg + 1) (wgBlock ph.ty 0 1))[ph.Wg]? = _; simp)) (by simp)
  refine (hJ.extra : OkP ph J).sema _ (G (ato b (a.put o'.dst (.tuple #[])) (.inRegion ops rest :: kk)) cs) A rfl rfl h6 (fun w st h => ?_) (fun w st h => ?_) (by rw [hd]; exact hk _ _ ⟨rfl, rfl⟩)
  · have hc : w.cell? ⟨ph.Wg, 1, none⟩ = some (.int .u32 0) := h.cellSm
    have hr : (Extern.Sync.semacquire #[.pointer (some ⟨ph.Wg, 1, none⟩), x]).run Try.prog w = .halt .blocked w := by
      simp [Extern.Sync.semacquire, Extern.Sync.count, hc]
    rw [hP]
    refine stepG_halted ho hw hnd ?_
    rw [hs, Go.run_callFunc_extern Try.func91 (x_semacquire_n link) (x_semacquire_b link) (x_semacquire_x link) (x_semacquire_f link), hr]; rfl
  · have hc : w.cell? ⟨ph.Wg, 1, none⟩ = some (.int .u32 1) := h.cellSm
    have hz := h.thaw 1
    have hev : ∀ es, (Extern.Sync.semacquire #[.pointer (some ⟨ph.Wg, 1, none⟩), x]).events Try.prog w es = es ++ semEvents (smA ph.Wg) := fun es => by
      simp [Extern.Sync.semacquire, Extern.Sync.count, hc, hz, semEvents, smA, Go.events_load, Go.events_store Try.prog w _ ⟨ph.Wg, 1, none⟩ (.int .u32 0) .atomic rfl, run_store Try.prog w ⟨ph.Wg, 1, none⟩ (.int .u32 0) .atomic rfl, Result.evThen]
      apply Array.ext'
      simp
    rw [hP, stepG_value ho hw hbk (run1 w st h)]
    unfold Go.Conc.listed
    rw [hs, Go.Conc.events_callFunc_extern Try.func91 (x_semacquire_n link) (x_semacquire_b link) (x_semacquire_x link) (x_semacquire_f link), hev]
    simp only [List.push_toArray, List.nil_append]
    rw [Go.Conc.seen_entry _ _ _ (Go.Conc.semEvents_sync _)]
end
end Go.Dw.J
end
section
namespace Go.Dw.J
open Go.RowKit Go.Dw Go.Proofs
open Go.Conc (G Goes QuitsD aside_setCell Aside semEvents dcall)
open Go.ConcR (Payload WgAt wgBlock KK stA smA rd wr mk)
open Go.ConcR.Gen
open Go.ConcN (WgLive)
set_option linter.unusedSectionVars false
set_option linter.unusedSimpArgs false
set_option linter.unusedVariables false
set_option maxRecDepth 100000
set_option maxHeartbeats 4000000
theorem viu_3 : (Try.prog.underlying 3).isSome = true := by kernel_rfl
theorem viu_65 : (Try.prog.underlying 65).isSome = true := by kernel_rfl
theorem vun_65 : Try.prog.underlying 65 = some (.int .u64) := by kernel_rfl
theorem vun_21 : Try.prog.underlying 21 = some (.int .i32) := by kernel_rfl
theorem vun_68 : Try.prog.underlying 68 = some (.int .u32) := by kernel_rfl
theorem vun_110 : Try.prog.underlying 110 = some (.pointer 68) := by kernel_rfl
theorem vun_102 : Try.prog.underlying 102 = some (.pointer 70) := by kernel_rfl
theorem vun_104 : Try.prog.underlying 104 = some .unsafePointer := by kernel_rfl
theorem vrm_68 : (Try.prog.info? 68).map (fun i => decide (i.size = 0)) = some false := by kernel_rfl
theorem vrm_70 : (Try.prog.info? 70).map (fun i => decide (i.size = 0)) = some false := by kernel_rfl
theorem vgf_80 : goFn Try.prog 80 = true := by kernel_rfl
theorem vgf_82 : goFn Try.prog 82 = true := by kernel_rfl
theorem vgf_89 : goFn Try.prog 89 = true := by kernel_rfl
section
variable {n : Nat}
theorem b_shl (hn : n < 2147483648) (w : World) : (binOp .shl 65 (.int .u64 (n : Int)) (.int .u64 32)).run Try.prog w = .ok (.int .u64 ((n : Int) * 4294967296)) w := by
  simp [binOp, go_sem]
  rw [IntKind.wrap_u64]; omega
theorem b_shr (w : World) : (binOp .shr 65 (.int .u64 ((n : Int) * 4294967296)) (.int .u64 32)).run Try.prog w = .ok (.int .u64 (n : Int)) w := by
  simp [binOp, go_sem]
theorem b_flag (hn : n < 2147483648) (w : World) : (binOp .and 65 (.int .u64 ((n : Int) * 4294967296)) (.int .u64 2147483648)).run Try.prog w = .ok (.int .u64 0) w := by
  have := Go.ConcN.st_flag n 0 hn (by omega)
  simp at this
  simp [binOp, go_sem, this]
theorem b_wait (hn : n < 2147483648) (w : World) : (binOp .and 65 (.int .u64 ((n : Int) * 4294967296)) (.int .u64 2147483647)).run Try.prog w = .ok (.int .u64 0) w := by
  have := Go.ConcN.st_waiters n 0 hn (by omega)
  simp at this
  simp [binOp, go_sem, this]
theorem w_u64 (hn : n < 2147483648) : IntKind.u64.wrap (n : Int) = (n : Int) := by rw [IntKind.wrap_u64]; omega
theorem w_i32 (hn : n < 2147483648) : IntKind.i32.wrap (n : Int) = (n : Int) := by rw [IntKind.wrap_i32]; omega
end
noncomputable def body39 : Code := Try.f39.body.getD .skip
noncomputable def x39 : Code := match body39 with
  | .seq (.cond _ x _) _ => x
  | _ => .skip
noncomputable def rest39 : Code := match body39 with
  | .seq _ y => y
  | _ => .skip
noncomputable def xa39 : Code := match x39 with
  | .seq x _ => x
  | _ => .skip
noncomputable def xb39 : Code := match x39 with
  | .seq _ (.seq x _) => x
  | _ => .skip
noncomputable def xc39 : Code := match x39 with
  | .seq _ (.seq _ x) => x
  | _ => .skip
theorem body39_eq : body39 = .seq (.cond (.const (.bool true)) (.seq xa39 (.seq xb39 xc39)) .skip) rest39 := rfl
section
variable [Payload] {ph : Ph} {A : World} {f : Fr}
theorem add_a (h1 : f 1 = .int .i64 (ph.n : Int)) : @Wpf (compP ph) Try.prog 117 (fun e F B => e = .normal ∧ F 0 = f 0 ∧ F 1 = f 1 ∧ B = A) xa39 f A := by
  letI := compP ph
  refine wpf_seq_region ?_
  refine wpo_move (v := .int .i64 (ph.n : Int)) h1 rfl ?_
  refine wpo_lss (q := false) rfl rfl (by simp) rfl ?_
  refine wpo_nil (wpf_condf rfl rfl (wpf_skip ⟨rfl, rfl, rfl, rfl⟩))
theorem add_b (h : g0 A = 1) : @Wpf (compP ph) Try.prog 117 (fun e F B => e = .normal ∧ F 0 = f 0 ∧ F 1 = f 1 ∧ B = setT A 2 0) xb39 f A := by
  letI := compP ph
  refine wpf_region ?_
  refine wpo_entry (vs := []) args_nil rfl (e_disable1 h) ?_
  rintro _ _ ⟨rfl, rfl⟩
  exact wpo_nil ⟨rfl, rfl, rfl, rfl⟩
theorem add_rest (h : g0 A = 2) (hW : ¬ Seen A ph.Wg) (hn : ph.n < 2147483648) (h0 : f 0 = .pointer (some ⟨ph.Wg, 0, none⟩)) (h1 : f 1 = .int .i64 (ph.n : Int)) : @Wpf (compP ph) Try.prog 117 (fun e F B => e = .ret ∧ B = setT A 3 0) rest39 f A := by
  letI := compP ph
  refine wpf_seq_region (wpo_assign (v := .bool false) rfl rfl (wpo_nil ?_))
  refine wpf_seq (wpf_seq_region ?_)
  refine wpo_entry (vs := []) args_nil rfl e_bubble ?_
  rintro _ B ⟨rfl, hB⟩
  rw [hB]
  refine wpo_nil (wpf_condf rfl rfl (wpf_skip ?_))
  refine wpf_seq_region ?_
  refine wpo_move (v := .pointer (some ⟨ph.Wg, 0, none⟩)) h0 rfl ?_
  refine wpo_nilCheck rfl rfl ?_
  refine wpo_fieldAddr (o' := 0) vfo_70_1 rfl rfl rfl ?_
  refine wpo_move (v := .int .i64 (ph.n : Int)) h1 rfl ?_
  refine wpo_conv (c := (ph.n : Int)) rfl viu_3 vun_65 (w_u64 hn) rfl ?_
  refine wpo_bin (v := .int .u64 ((ph.n : Int) * 4294967296)) rfl rfl rfl rfl (b_shl hn) (fun _ _ => rfl) rfl ?_
  refine wpo_call (vs := [.pointer (some ⟨ph.Wg, 0, none⟩), .int .u64 ((ph.n : Int) * 4294967296)]) vgf_80 (args_cons rfl (args_cons rfl args_nil)) rfl (uAdd_c h hW hn) ?_
  rintro _ _ ⟨rfl, rfl⟩
  refine wpo_assign (v := .int .u64 ((ph.n : Int) * 4294967296)) rfl rfl (wpo_nil ?_)
  refine wpf_seq (wpf_seq_region ?_)
  refine wpo_move (v := .int .u64 ((ph.n : Int) * 4294967296)) rfl rfl ?_
  refine wpo_bin (v := .int .u64 0) rfl rfl rfl rfl (b_flag hn) (fun _ _ => rfl) rfl ?_
  refine wpo_neq (q := false) rfl rfl rfl rfl ?_
  refine wpo_move (v := .bool false) rfl rfl ?_
  refine wpo_pass rfl rfl rfl rfl rfl ?_
  refine wpo_pass rfl rfl rfl rfl rfl ?_
  refine wpo_pickf (v := .bool false) rfl rfl rfl rfl (wpo_nil (wpf_condf rfl rfl (wpf_skip ?_)))
  refine wpf_seq_region ?_
  refine wpo_move (v := .int .u64 ((ph.n : Int) * 4294967296)) rfl rfl ?_
  refine wpo_bin (v := .int .u64 (ph.n : Int)) rfl rfl rfl rfl (b_shr) (fun _ _ => rfl) rfl ?_
  refine wpo_conv (c := (ph.n : Int)) rfl viu_65 vun_21 (w_i32 hn) rfl ?_
  refine wpo_assign (v := .int .i32 (ph.n : Int)) rfl rfl (wpo_nil ?_)
  refine wpf_seq_region ?_
  refine wpo_move (v := .int .u64 ((ph.n : Int) * 4294967296)) rfl rfl ?_
  refine wpo_bin (v := .int .u64 0) rfl rfl rfl rfl (b_wait hn) (fun _ _ => rfl) rfl ?_
  refine wpo_conv (c := 0) rfl viu_65 vun_68 (by rw [IntKind.wrap_u32]; rfl) rfl ?_
  refine wpo_assign (v := .int .u32 0) rfl rfl (wpo_nil ?_)
  have tail : ∀ F : Fr, F 7 = .int .i32 (ph.n : Int) → F 8 = .int .u32 0 → F 1 = .int .i64 (ph.n : Int) → @Wpf (compP ph) Try.prog 117 (fun e F B => e = .ret ∧ B = setT A 3 0) (match rest39 with | .seq _ (.seq _ (.seq _ (.seq _ (.seq _ (.seq _ (.seq _ c)))))) => c | _ => .skip) F (setT A 3 0) := by
    intro F e7 e8 e1
    refine wpf_seq (wpf_seq_region ?_)
    refine wpo_move (v := .int .i32 (ph.n : Int)) e7 rfl ?_
    refine wpo_lss (q := false) rfl rfl (by simp) rfl (wpo_nil (wpf_condf rfl rfl (wpf_skip ?_)))
    refine wpf_seq (wpf_seq_region ?_)
    refine wpo_move (v := .int .u32 0) e8 rfl ?_
    refine wpo_neq (q := false) rfl rfl rfl rfl ?_
    refine wpo_move (v := .bool false) rfl rfl ?_
    refine wpo_pass rfl rfl rfl rfl rfl ?_
    refine wpo_pass rfl rfl rfl rfl rfl ?_
    refine wpo_pickf (v := .bool false) rfl rfl rfl rfl ?_
    refine wpo_move (v := .bool false) rfl rfl ?_
    refine wpo_pass rfl rfl rfl rfl rfl ?_
    refine wpo_pass rfl rfl rfl rfl rfl ?_
    refine wpo_pass rfl rfl rfl rfl rfl ?_
    refine wpo_pass rfl rfl rfl rfl rfl ?_
    refine wpo_pickf (v := .bool false) rfl rfl rfl rfl (wpo_nil (wpf_condf rfl rfl (wpf_skip ?_)))
    refine wpf_seq (wpf_seq_region ?_)
    refine wpo_move (v := .int .i32 (ph.n : Int)) e7 rfl ?_
    rcases Nat.eq_zero_or_pos ph.n with hz | hp
    · refine wpo_gtr (q := false) rfl rfl (by simp; omega) rfl ?_
      refine wpo_move (v := .bool false) rfl rfl ?_
      refine wpo_run rfl rfl rfl rfl ?_
      refine wpo_move (v := .int .u32 0) e8 rfl ?_
      refine wpo_run rfl rfl rfl rfl ?_
      refine wpo_eql (q := true) rfl rfl rfl rfl ?_
      refine wpo_pickf (v := .bool true) rfl rfl rfl rfl (wpo_nil (wpf_condt rfl rfl (wpf_ret ⟨rfl, rfl⟩)))
    · refine wpo_gtr (q := true) rfl rfl (by simp; omega) rfl ?_
      refine wpo_move (v := .bool true) rfl rfl ?_
      refine wpo_pass rfl rfl rfl rfl rfl ?_
      refine wpo_pass rfl rfl rfl rfl rfl ?_
      refine wpo_pickt (v := .bool true) rfl rfl rfl rfl (wpo_nil (wpf_condt rfl rfl (wpf_ret ⟨rfl, rfl⟩)))
  refine wpf_seq (wpf_seq_region ?_)
  refine wpo_move (v := .bool true) rfl rfl ?_
  refine wpo_run rfl rfl rfl rfl ?_
  refine wpo_move (v := .int .i64 (ph.n : Int)) h1 rfl ?_
  refine wpo_run rfl rfl rfl rfl ?_
  rcases Nat.eq_zero_or_pos ph.n with hz | hp
  · refine wpo_gtr (q := false) rfl rfl (by simp; omega) rfl ?_
    refine wpo_pickt (v := .bool false) rfl rfl rfl rfl ?_
    refine wpo_move (v := .bool false) rfl rfl ?_
    refine wpo_pass rfl rfl rfl rfl rfl ?_
    refine wpo_pass rfl rfl rfl rfl rfl ?_
    refine wpo_pass rfl rfl rfl rfl rfl ?_
    refine wpo_pass rfl rfl rfl rfl rfl ?_
    refine wpo_pickf (v := .bool false) rfl rfl rfl rfl (wpo_nil (wpf_condf rfl rfl (wpf_skip ?_)))
    exact tail _ rfl rfl h1
  · refine wpo_gtr (q := true) rfl rfl (by simp; omega) rfl ?_
    refine wpo_pickt (v := .bool true) rfl rfl rfl rfl ?_
    refine wpo_move (v := .bool true) rfl rfl ?_
    refine wpo_run rfl rfl rfl rfl ?_
    refine wpo_move (v := .int .i32 (ph.n : Int)) rfl rfl ?_
    refine wpo_run rfl rfl rfl rfl ?_
    refine wpo_move (v := .int .i64 (ph.n : Int)) h1 rfl ?_
    refine wpo_run rfl rfl rfl rfl ?_
    refine wpo_conv (c := (ph.n : Int)) rfl viu_3 vun_21 (w_i32 hn) rfl ?_
    refine wpo_run rfl rfl rfl rfl ?_
    refine wpo_eql (q := true) rfl rfl (by simp) rfl ?_
    refine wpo_pickt (v := .bool true) rfl rfl rfl rfl (wpo_nil (wpf_condt rfl rfl (wpf_region ?_)))
    refine wpo_move (v := .pointer (some ⟨ph.Wg, 0, none⟩)) h0 rfl ?_
    refine wpo_nilCheck rfl rfl ?_
    refine wpo_fieldAddr (o' := 1) vfo_70_2 rfl rfl rfl ?_
    refine wpo_unsafe (ph := ph) vun_110 vun_104 vrm_68 rfl (.inr rfl) (by show (3 : Nat) ≠ 0; omega) rfl ?_
    refine wpo_entry (vs := [.pointer (some ⟨ph.Wg, 1, none⟩)]) (args_cons rfl args_nil) rfl (e_read rfl) ?_
    rintro _ _ ⟨rfl, rfl⟩
    exact wpo_nil (tail _ rfl rfl h1)
end
end Go.Dw.J
end
section
namespace Go.Dw.J
open Go.RowKit Go.Dw Go.Proofs
open Go.Conc (G dcall base)
open Go.ConcR (Payload mk)
open Go.ConcR.Gen
set_option linter.unusedSectionVars false
set_option linter.unusedSimpArgs false
set_option linter.unusedVariables false
set_option maxRecDepth 100000
set_option maxHeartbeats 4000000
section
variable [Payload] {ph : Ph} {A : World}
theorem add_c (h : g0 A = 1) (hW : ¬ Seen A ph.Wg) (hn : ph.n < 2147483648) : @CallsR (compP ph) Try.prog 39 #[.pointer (some ⟨ph.Wg, 0, none⟩), .int .i64 (ph.n : Int)] A (fun v B => v = .tuple #[] ∧ B = setT A 4 0) := by
  letI := compP ph
  intro J hJ cf cs hk
  have eb : Try.f39.body = some body39 := rfl
  rw [Go.Conc.enter_at _ Try.func39 eb, ← ato_at (b := base 39) rfl rfl, Try.ntmps39, body39_eq]
  generalize hT : (#[.pointer (some ⟨ph.Wg, 0, none⟩), .int .i64 (ph.n : Int)] ++ Array.replicate (117 - (#[.pointer (some ⟨ph.Wg, 0, none⟩), .int .i64 (ph.n : Int)] : Array Value).size) undef : Array Value) = T
  have hf : FEq 117 ⟨T, []⟩ (fun i => T.getD i undef) := ⟨rfl, by rw [← hT]; simp, fun i => rfl⟩
  have h0 : T.getD 0 undef = .pointer (some ⟨ph.Wg, 0, none⟩) := by rw [← hT]; simp
  have h1 : T.getD 1 undef = .int .i64 (ph.n : Int) := by rw [← hT]; simp
  have hb : (base 39).kind ≠ .early := by simp [base]
  refine hJ.move rfl (fun w => stepG_seq) ?_
  refine hJ.move rfl (fun w => stepG_cond (t := true) rfl) ?_
  simp only [if_true]
  refine hJ.move rfl (fun w => stepG_seq) ?_
  refine add_a (ph := ph) h1 J hJ (base 39) hb _ (cf :: cs) _ hf fun e a1 f1 A1 hf1 ⟨he, e0, e1, eA⟩ => ?_
  subst he
  rw [eA]
  refine hJ.move rfl (fun w => stepG_seq) ?_
  refine add_b (ph := ph) h J hJ (base 39) hb _ (cf :: cs) _ hf1 fun e a2 f2 A2 hf2 ⟨he, e02, e12, eA2⟩ => ?_
  subst he
  rw [eA2]
  obtain ⟨tm2, ds2⟩ := a2
  have hd2 : ds2 = [] := hf2.defers
  subst hd2
  have ec : ∃ o : Oper, xc39 = .region 3 #[o] false ∧ o.dst = none ∧ o.op = .defer { callee := .value (.func 75), args := #[], argTypes := #[] } ∧ o.guard = none := ⟨_, rfl, rfl, rfl, rfl⟩
  obtain ⟨o, ec, od, oo, og⟩ := ec
  rw [ec]
  refine hJ.move rfl (fun w => stepG_region (id := 3)) ?_
  rw [ato_at rfl rfl]
  refine hJ.move rfl (fun w => Go.Conc.stepG_defer (b := base 39) (i := 0) (f := 75) (o := o) rfl (by simp [Region.wanted, og]) hb oo) ?_
  refine hJ.move rfl (fun w => Go.Conc.stepG_region_end (b := base 39)) ?_
  have ep : Act.put ⟨tm2, [dcall 75 #[]]⟩ o.dst undef = ⟨tm2, [dcall 75 #[]]⟩ := by rw [od]; rfl
  have em : Array.map (Act.eval ⟨tm2, []⟩) #[] = #[] := by simp
  rw [em, ep]
  refine add_rest (ph := ph) (A := setT A 2 0) rfl hW hn (by rw [e02, e0]; exact h0) (by rw [e12, e1]; exact h1) J hJ { base 39 with defers := [dcall 75 #[]] } hb [] (cf :: cs) ⟨tm2, []⟩ hf2 fun e a3 f3 A3 hf3 ⟨he, eA3⟩ => ?_
  subst he
  intro k2
  rw [eA3]
  refine hJ.move rfl (fun w => stepG_ret rfl) ?_
  obtain ⟨tm3, ds3⟩ := a3
  have hd3 : ds3 = [] := hf3.defers
  subst hd3
  have hJn : J (G { ato (base 39) ⟨tm3, []⟩ (.code .ret :: k2) with mode := .returning } (cf :: cs)) (setT A 4 0) :=
    hJ.leave (b := base 39) rfl rfl rfl Try.func39 (fun A1 hE => Go.Dw.res0 (f := f3) rfl _ hf3.at_) (hk _ _ ⟨rfl, rfl⟩) _
  refine hJ.step _ _ ⟨rfl, fun w hs hi => ⟨_, setT A 4 0, w, #[mk .enable], ?_, setT_sees (A := setT A 3 0) (w' := w) hs 4 0, .inr (.enable rfl rfl rfl rfl), hJn⟩⟩
  exact Go.Conc.stepG_unwind_entry (b := base 39) (a := ⟨tm3, [dcall 75 #[]]⟩) (ds := []) (f := 75) rfl Try.func75 (x_enable_n link) (x_enable_b link) (x_enable_x link) (x_enable_f link) (by simp [Extern.Race.none_]; rfl) (by simp; rfl) (evt _ rfl (fun g h => by simp [mk] at h))
end
end Go.Dw.J
end
section
namespace Go.Dw.J
open Go.RowKit Go.Dw Go.Proofs
open Go.ConcR (Payload mk)
open Go.ConcR.Gen
set_option linter.unusedSectionVars false
set_option linter.unusedSimpArgs false
set_option linter.unusedVariables false
set_option maxRecDepth 100000
set_option maxHeartbeats 4000000
theorem b_add1 {n : Nat} (hn : n < 2147483648) (w : World) : (binOp .add 65 (.int .u64 ((n : Int) * 4294967296)) (.int .u64 1)).run Try.prog w = .ok (.int .u64 ((n : Int) * 4294967296 + 1)) w := by
  simp [binOp, go_sem, Op.intArith]
  rw [IntKind.wrap_u64]; omega
section
variable [Payload] {ph : Ph} {A : World}
end
end Go.Dw.J
end
