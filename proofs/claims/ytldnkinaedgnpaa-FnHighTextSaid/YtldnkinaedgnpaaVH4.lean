/- Laws and walks: my templates, and what a program of mine (gen.py) printed out of the functions; only what the row reaches. -/
import Derived.Test.YtldnkinaedgnpaaVH3
section
namespace Go.Dw.J
open Go.RowKit Go.Dw Go.Proofs
set_option linter.unusedSectionVars false
set_option maxRecDepth 100000
set_option maxHeartbeats 4000000
set_option linter.unusedSimpArgs false
set_option linter.unusedVariables false
theorem Rg [Comp] (l : Lab) (w : World) (q : MTh) (hq : ThAt w q) (hn : q.t.slots.length ≤ 1048576 ∧ q.t.queue.length ≤ 1048576) : CallsR Try.prog 42 #[.agg #[.int .i64 q.t.kind, .int .i64 q.t.lab.s, .int .i64 q.t.lab.v, .int .i64 q.t.ve, .int .i64 q.t.num, .slice q.sa q.t.slots.length q.sc, .slice q.qa q.t.queue.length q.qc, .int .i64 q.t.to], .agg #[.int .i64 l.s, .int .i64 l.v]] w (fun v w' => ∃ (sa : Option Addr) (sc : Nat) (qa : Option Addr) (qc : Nat), v = .agg #[.int .i64 ((viewTh q.t l).kind), .int .i64 ((viewTh q.t l).lab.s), .int .i64 ((viewTh q.t l).lab.v), .int .i64 ((viewTh q.t l).ve), .int .i64 ((viewTh q.t l).num), .slice sa ((viewTh q.t l).slots.length) sc, .slice qa ((viewTh q.t l).queue.length) qc, .int .i64 ((viewTh q.t l).to)] ∧ OwnN w.heap.size w' sa 74 5 sc (viewTh q.t l).slots.length ((viewTh q.t l).slots.flatMap Rt.cells) ∧ OwnN w.heap.size w' qa 3 1 qc (viewTh q.t l).queue.length ((viewTh q.t l).queue.flatMap icell) ∧ w.grownBy w' none) := by
 refine Xp (n := 24) Try.func42 rfl Try.ntmps42 rfl ?_
 have hb0 := World.grownBy.refl w none
 refine Xa ?_
 refine wpo_box (v := .agg #[.int .i64 q.t.kind, .int .i64 q.t.lab.s, .int .i64 q.t.lab.v, .int .i64 q.t.ve, .int .i64 q.t.num, .slice q.sa q.t.slots.length q.sc, .slice q.qa q.t.queue.length q.qc, .int .i64 q.t.to]) (cs := #[.int .i64 q.t.kind, .int .i64 q.t.lab.s, .int .i64 q.t.lab.v, .int .i64 q.t.ve, .int .i64 q.t.num, .slice q.sa q.t.slots.length q.sc, .slice q.qa q.t.queue.length q.qc, .int .i64 q.t.to]) rfl rfl rfl ?_
 intro B101 w102 hN103
 have hlB101 := X1 hN103 hb0
 have hb104 := low0 hb0 hN103.grw
 refine wpo_box (v := .agg #[.int .i64 l.s, .int .i64 l.v]) (cs := #[.int .i64 l.s, .int .i64 l.v]) rfl rfl rfl ?_
 intro B105 w106 hN107
 have hlB105 := X1 hN107 hb104
 have lt_B101_B105 := Xo hN107 (hN103.blk).lt
 have hb108 := low0 hb104 hN107.grw
 refine wpo_alloc (cs := #[.int .i64 0, .int .i64 0, .int .i64 0, .int .i64 0, .int .i64 0, .slice none 0 0, .slice none 0 0, .int .i64 0]) Q6 rfl rfl ?_
 intro B109 w110 hN111
 have hlB109 := X1 hN111 hb108
 have k112 := (hN103.blk.grown0 hN107.grw)
 have lt_B101_B109 := Xo hN111 (k112).lt
 have lt_B105_B109 := Xo hN111 (hN107.blk).lt
 have hb113 := low0 hb108 hN111.grw
 refine wpo_nil ?_
 refine Xi ?_
 refine Xa ?_
 refine wpo_fieldAddr (o' := 1) J7 rfl rfl rfl ?_
 have k114 := (k112.grown0 hN111.grw)
 refine wpo_loadn (vs := [.int .i64 q.t.lab.s, .int .i64 q.t.lab.v]) Yr rfl rfl (k114.rangeL 1 2 rfl) rfl ?_
 have k115 := (hN107.blk.grown0 hN111.grw)
 refine wpo_loadn (vs := [.int .i64 l.s, .int .i64 l.v]) Yr rfl rfl (k115.rangeL 0 2 rfl) rfl ?_
 refine Xh (vs := [.agg #[.int .i64 q.t.lab.s, .int .i64 q.t.lab.v], .agg #[.int .i64 l.s, .int .i64 l.v]]) Em (Xb rfl (Xb rfl Xg)) rfl (Gi q.t.lab l _) ?_
 rintro _ w116 ⟨rfl, hg117⟩
 have hb118 := low0 hb113 hg117
 refine wpo_nil ?_
 refine Xq rfl (fun h119 => ?_) (fun h119 => ?_)
 ·
  refine Xa ?_
  have k120 := (k114.grown0 hg117)
  refine wpo_loadn (vs := [.int .i64 q.t.kind, .int .i64 q.t.lab.s, .int .i64 q.t.lab.v, .int .i64 q.t.ve, .int .i64 q.t.num, .slice q.sa q.t.slots.length q.sc, .slice q.qa q.t.queue.length q.qc, .int .i64 q.t.to]) Xx rfl rfl (k120.rangeL 0 8 rfl) rfl ?_
  refine Xh (vs := [.agg #[.int .i64 q.t.kind, .int .i64 q.t.lab.s, .int .i64 q.t.lab.v, .int .i64 q.t.ve, .int .i64 q.t.num, .slice q.sa q.t.slots.length q.sc, .slice q.qa q.t.queue.length q.qc, .int .i64 q.t.to]]) I2 (Xb rfl Xg) rfl (N4 _ q (ThAt.low hq hb118) (by omega)) ?_
  rintro _ w128 ⟨a121, cap122, a123, cap124, rfl, hO125, hO126, hg127⟩
  have hb129 := low0 hb118 hg127
  have hO130 := OwnN.mono hO125 hb118.size
  have hO131 := OwnN.mono hO126 hb118.size
  have k132 := ((hN111.blk.grown0 hg117).grown0 hg127)
  refine wpo_storen (vs := [.int .i64 q.t.kind, .int .i64 q.t.lab.s, .int .i64 q.t.lab.v, .int .i64 q.t.ve, .int .i64 q.t.num, .slice a121 q.t.slots.length cap122, .slice a123 q.t.queue.length cap124, .int .i64 q.t.to]) (cs' := #[.int .i64 q.t.kind, .int .i64 q.t.lab.s, .int .i64 q.t.lab.v, .int .i64 q.t.ve, .int .i64 q.t.num, .slice a121 q.t.slots.length cap122, .slice a123 q.t.queue.length cap124, .int .i64 q.t.to]) Xx rfl rfl rfl (by simp [Value.oneCell']) k132 (Nat.le_of_ble_eq_true rfl) rfl ?_
  intro w133 hS134
  have hb135 := low1 hb129 hS134.grw (by omega)
  refine wpo_nil ?_
  refine Xj ?_
  refine X7 ?_
  have hv : viewTh q.t l = q.t := Rc h119
  rw [hv]
  refine ⟨.agg #[.int .i64 q.t.kind, .int .i64 q.t.lab.s, .int .i64 q.t.lab.v, .int .i64 q.t.ve, .int .i64 q.t.num, .slice a121 q.t.slots.length cap122, .slice a123 q.t.queue.length cap124, .int .i64 q.t.to], resC rfl (resCell_mk (vs := [.int .i64 q.t.kind, .int .i64 q.t.lab.s, .int .i64 q.t.lab.v, .int .i64 q.t.ve, .int .i64 q.t.num, .slice a121 q.t.slots.length cap122, .slice a123 q.t.queue.length cap124, .int .i64 q.t.to]) Xx rfl rfl (hS134.blk.rangeL 0 8 rfl)), a121, cap122, a123, cap124, rfl, (OwnN.typB hO130 hS134.grw k132 (by decide)), (OwnN.typB hO131 hS134.grw k132 (by decide)), hb135⟩
 ·
  refine Xk ?_
  refine Xn ?_
  refine Xa ?_
  refine wpo_fieldAddr (o' := 0) X9 rfl rfl rfl ?_
  have k136 := (k114.grown0 hg117)
  refine wpo_load1 (v := .int .i64 q.t.kind) X0 rfl (k136.cell rfl) rfl ?_
  refine wpo_fieldAddr (o' := 1) J7 rfl rfl rfl ?_
  refine wpo_loadn (vs := [.int .i64 q.t.lab.s, .int .i64 q.t.lab.v]) Yr rfl rfl (k136.rangeL 1 2 rfl) rfl ?_
  refine wpo_fieldAddr (o' := 7) Jj rfl rfl rfl ?_
  refine wpo_load1 (v := .int .i64 q.t.to) X0 rfl (k136.cell rfl) rfl ?_
  rcases Xy ((decide (q.t.kind = 2)) || (decide (q.t.kind = 3))) with h137 | h137
  ·
   rcases Xy (newOk q.t.kind q.t.lab q.t.to) with h138 | h138
   ·
    have k139 := (k115.grown0 hg117)
    have k140 := (hN111.blk.grown0 hg117)
    have h141 : thingOk (⟨q.t.kind, q.t.lab, 0, 0, zeros4, [], q.t.to⟩ : Th) = true := (Vd h137).symm.trans h138
    refine Xh (vs := [.int .i64 q.t.kind, .agg #[.int .i64 q.t.lab.s, .int .i64 q.t.lab.v], .int .i64 q.t.to]) S1 (Xb rfl (Xb rfl (Xb rfl Xg))) rfl (Nx q.t.kind q.t.to q.t.lab h137 h138 _) ?_
    rintro _ w142 ⟨B144, cap145, rfl, hge146, hO147, hg143⟩
    have hb148 := low0 hb118 hg143
    have hlB144 := Nat.le_trans hb118.size hge146
    have lt_B101_B144 := Nat.lt_of_lt_of_le (k136).lt hge146
    have lt_B105_B144 := Nat.lt_of_lt_of_le (k139).lt hge146
    have lt_B109_B144 := Nat.lt_of_lt_of_le (k140).lt hge146
    refine wpo_move (v := .tuple #[.agg #[.int .i64 q.t.kind, .int .i64 q.t.lab.s, .int .i64 q.t.lab.v, .int .i64 0, .int .i64 0, .slice (some ⟨B144, 0, none⟩) 4 cap145, .slice none 0 0, .int .i64 q.t.to], .bool true]) rfl rfl ?_
    refine wpo_extract (v := .agg #[.int .i64 q.t.kind, .int .i64 q.t.lab.s, .int .i64 q.t.lab.v, .int .i64 0, .int .i64 0, .slice (some ⟨B144, 0, none⟩) 4 cap145, .slice none 0 0, .int .i64 q.t.to]) rfl rfl rfl ?_
    refine wpo_extract (v := .bool true) rfl rfl rfl ?_
    refine wpo_alloc (cs := #[.int .i64 0, .int .i64 0, .int .i64 0, .int .i64 0, .int .i64 0, .slice none 0 0, .slice none 0 0, .int .i64 0]) Q6 rfl rfl ?_
    intro B149 w150 hN151
    have hlB149 := X1 hN151 hb148
    have k152 := (k136.grown0 hg143)
    have lt_B101_B149 := Xo hN151 (k152).lt
    have k153 := (k139.grown0 hg143)
    have lt_B105_B149 := Xo hN151 (k153).lt
    have k154 := (k140.grown0 hg143)
    have lt_B109_B149 := Xo hN151 (k154).lt
    have lt_B144_B149 := Xo hN151 (hO147).lt
    have hb155 := low0 hb148 hN151.grw
    refine wpo_storen (vs := [.int .i64 q.t.kind, .int .i64 q.t.lab.s, .int .i64 q.t.lab.v, .int .i64 0, .int .i64 0, .slice (some ⟨B144, 0, none⟩) 4 cap145, .slice none 0 0, .int .i64 q.t.to]) (cs' := #[.int .i64 q.t.kind, .int .i64 q.t.lab.s, .int .i64 q.t.lab.v, .int .i64 0, .int .i64 0, .slice (some ⟨B144, 0, none⟩) 4 cap145, .slice none 0 0, .int .i64 q.t.to]) Xx rfl rfl rfl (by simp [Value.oneCell']) hN151.blk (Nat.le_of_ble_eq_true rfl) rfl ?_
    intro w156 hS157
    have hb158 := low1 hb155 hS157.grw (by omega)
    refine wpo_assign (v := .bool true) rfl rfl ?_
    refine wpo_nil ?_
    refine Xa ?_
    refine wpo_loadn (vs := [.int .i64 q.t.kind, .int .i64 q.t.lab.s, .int .i64 q.t.lab.v, .int .i64 0, .int .i64 0, .slice (some ⟨B144, 0, none⟩) 4 cap145, .slice none 0 0, .int .i64 q.t.to]) Xx rfl rfl (hS157.blk.rangeL 0 8 rfl) rfl ?_
    have k159 := ((k154.grown0 hN151.grw).gn hS157.grw)
    refine wpo_storen (vs := [.int .i64 q.t.kind, .int .i64 q.t.lab.s, .int .i64 q.t.lab.v, .int .i64 0, .int .i64 0, .slice (some ⟨B144, 0, none⟩) 4 cap145, .slice none 0 0, .int .i64 q.t.to]) (cs' := #[.int .i64 q.t.kind, .int .i64 q.t.lab.s, .int .i64 q.t.lab.v, .int .i64 0, .int .i64 0, .slice (some ⟨B144, 0, none⟩) 4 cap145, .slice none 0 0, .int .i64 q.t.to]) Xx rfl rfl rfl (by simp [Value.oneCell']) k159 (Nat.le_of_ble_eq_true rfl) rfl ?_
    intro w160 hS161
    have hb162 := low1 hb158 hS161.grw (by omega)
    refine wpo_nil ?_
    refine Xj ?_
    have hv : viewTh q.t l = ⟨q.t.kind, q.t.lab, 0, 0, zeros4, [], q.t.to⟩ := Mu h119 h138 h137
    have k163 := (((hO147.grown0 hN151.grw).gn hS157.grw).gn hS161.grw)
    rw [hv]
    refine ⟨.agg #[.int .i64 q.t.kind, .int .i64 q.t.lab.s, .int .i64 q.t.lab.v, .int .i64 0, .int .i64 0, .slice (some ⟨B144, 0, none⟩) 4 cap145, .slice none 0 0, .int .i64 q.t.to], resC rfl (resCell_mk (vs := [.int .i64 q.t.kind, .int .i64 q.t.lab.s, .int .i64 q.t.lab.v, .int .i64 0, .int .i64 0, .slice (some ⟨B144, 0, none⟩) 4 cap145, .slice none 0 0, .int .i64 q.t.to]) Xx rfl rfl (hS161.blk.rangeL 0 8 rfl)), some ⟨B144, 0, none⟩, cap145, none, 0, rfl, (OwnN.of k163 hlB144), OwnN.nil, hb162⟩
   ·
    have k164 := (k115.grown0 hg117)
    have k165 := (hN111.blk.grown0 hg117)
    have h166 : thingOk (⟨q.t.kind, q.t.lab, 0, 0, zeros4, [], q.t.to⟩ : Th) = false := (Vd h137).symm.trans h138
    refine Xh (vs := [.int .i64 q.t.kind, .agg #[.int .i64 q.t.lab.s, .int .i64 q.t.lab.v], .int .i64 q.t.to]) S1 (Xb rfl (Xb rfl (Xb rfl Xg))) rfl (Nw q.t.kind q.t.to q.t.lab h137 h138 _) ?_
    rintro _ w167 ⟨rfl, hg168⟩
    have hb169 := low0 hb118 hg168
    refine wpo_move (v := .tuple #[.agg #[.int .i64 0, .int .i64 0, .int .i64 0, .int .i64 0, .int .i64 0, .slice none 0 0, .slice none 0 0, .int .i64 0], .bool false]) rfl rfl ?_
    refine wpo_extract (v := .agg #[.int .i64 0, .int .i64 0, .int .i64 0, .int .i64 0, .int .i64 0, .slice none 0 0, .slice none 0 0, .int .i64 0]) rfl rfl rfl ?_
    refine wpo_extract (v := .bool false) rfl rfl rfl ?_
    refine wpo_alloc (cs := #[.int .i64 0, .int .i64 0, .int .i64 0, .int .i64 0, .int .i64 0, .slice none 0 0, .slice none 0 0, .int .i64 0]) Q6 rfl rfl ?_
    intro B170 w171 hN172
    have hlB170 := X1 hN172 hb169
    have k173 := (k136.grown0 hg168)
    have lt_B101_B170 := Xo hN172 (k173).lt
    have k174 := (k164.grown0 hg168)
    have lt_B105_B170 := Xo hN172 (k174).lt
    have k175 := (k165.grown0 hg168)
    have lt_B109_B170 := Xo hN172 (k175).lt
    have hb176 := low0 hb169 hN172.grw
    refine wpo_storen (vs := [.int .i64 0, .int .i64 0, .int .i64 0, .int .i64 0, .int .i64 0, .slice none 0 0, .slice none 0 0, .int .i64 0]) (cs' := #[.int .i64 0, .int .i64 0, .int .i64 0, .int .i64 0, .int .i64 0, .slice none 0 0, .slice none 0 0, .int .i64 0]) Xx rfl rfl rfl (by simp [Value.oneCell']) hN172.blk (Nat.le_of_ble_eq_true rfl) rfl ?_
    intro w177 hS178
    have hb179 := low1 hb176 hS178.grw (by omega)
    refine wpo_assign (v := .bool false) rfl rfl ?_
    refine wpo_nil ?_
    refine Xa ?_
    refine wpo_loadn (vs := [.int .i64 0, .int .i64 0, .int .i64 0, .int .i64 0, .int .i64 0, .slice none 0 0, .slice none 0 0, .int .i64 0]) Xx rfl rfl (hS178.blk.rangeL 0 8 rfl) rfl ?_
    have k180 := ((k175.grown0 hN172.grw).gn hS178.grw)
    refine wpo_storen (vs := [.int .i64 0, .int .i64 0, .int .i64 0, .int .i64 0, .int .i64 0, .slice none 0 0, .slice none 0 0, .int .i64 0]) (cs' := #[.int .i64 0, .int .i64 0, .int .i64 0, .int .i64 0, .int .i64 0, .slice none 0 0, .slice none 0 0, .int .i64 0]) Xx rfl rfl rfl (by simp [Value.oneCell']) k180 (Nat.le_of_ble_eq_true rfl) rfl ?_
    intro w181 hS182
    have hb183 := low1 hb179 hS182.grw (by omega)
    refine wpo_nil ?_
    refine Xj ?_
    have hv : viewTh q.t l = Th.zero := Rf h119 h138
    rw [hv]
    refine ⟨.agg #[.int .i64 0, .int .i64 0, .int .i64 0, .int .i64 0, .int .i64 0, .slice none 0 0, .slice none 0 0, .int .i64 0], resC rfl (resCell_mk (vs := [.int .i64 0, .int .i64 0, .int .i64 0, .int .i64 0, .int .i64 0, .slice none 0 0, .slice none 0 0, .int .i64 0]) Xx rfl rfl (hS182.blk.rangeL 0 8 rfl)), none, 0, none, 0, rfl, OwnN.nil, OwnN.nil, hb183⟩
  ·
   have h184 := J5 h137
   have h185 := of_decide_eq_false h184
   have h186 := J6 h137
   have h187 := of_decide_eq_false h186
   rcases Xy (newOk q.t.kind q.t.lab q.t.to) with h188 | h188
   ·
    have k189 := (k115.grown0 hg117)
    have k190 := (hN111.blk.grown0 hg117)
    have h191 : thingOk (⟨q.t.kind, q.t.lab, 0, 0, [], [], q.t.to⟩ : Th) = true := (Jv h137).symm.trans h188
    refine Xh (vs := [.int .i64 q.t.kind, .agg #[.int .i64 q.t.lab.s, .int .i64 q.t.lab.v], .int .i64 q.t.to]) S1 (Xb rfl (Xb rfl (Xb rfl Xg))) rfl (Nv q.t.kind q.t.to q.t.lab h137 h188 _) ?_
    rintro _ w192 ⟨rfl, hg193⟩
    have hb194 := low0 hb118 hg193
    refine wpo_move (v := .tuple #[.agg #[.int .i64 q.t.kind, .int .i64 q.t.lab.s, .int .i64 q.t.lab.v, .int .i64 0, .int .i64 0, .slice none 0 0, .slice none 0 0, .int .i64 q.t.to], .bool true]) rfl rfl ?_
    refine wpo_extract (v := .agg #[.int .i64 q.t.kind, .int .i64 q.t.lab.s, .int .i64 q.t.lab.v, .int .i64 0, .int .i64 0, .slice none 0 0, .slice none 0 0, .int .i64 q.t.to]) rfl rfl rfl ?_
    refine wpo_extract (v := .bool true) rfl rfl rfl ?_
    refine wpo_alloc (cs := #[.int .i64 0, .int .i64 0, .int .i64 0, .int .i64 0, .int .i64 0, .slice none 0 0, .slice none 0 0, .int .i64 0]) Q6 rfl rfl ?_
    intro B195 w196 hN197
    have hlB195 := X1 hN197 hb194
    have k198 := (k136.grown0 hg193)
    have lt_B101_B195 := Xo hN197 (k198).lt
    have k199 := (k189.grown0 hg193)
    have lt_B105_B195 := Xo hN197 (k199).lt
    have k200 := (k190.grown0 hg193)
    have lt_B109_B195 := Xo hN197 (k200).lt
    have hb201 := low0 hb194 hN197.grw
    refine wpo_storen (vs := [.int .i64 q.t.kind, .int .i64 q.t.lab.s, .int .i64 q.t.lab.v, .int .i64 0, .int .i64 0, .slice none 0 0, .slice none 0 0, .int .i64 q.t.to]) (cs' := #[.int .i64 q.t.kind, .int .i64 q.t.lab.s, .int .i64 q.t.lab.v, .int .i64 0, .int .i64 0, .slice none 0 0, .slice none 0 0, .int .i64 q.t.to]) Xx rfl rfl rfl (by simp [Value.oneCell']) hN197.blk (Nat.le_of_ble_eq_true rfl) rfl ?_
    intro w202 hS203
    have hb204 := low1 hb201 hS203.grw (by omega)
    refine wpo_assign (v := .bool true) rfl rfl ?_
    refine wpo_nil ?_
    refine Xa ?_
    refine wpo_loadn (vs := [.int .i64 q.t.kind, .int .i64 q.t.lab.s, .int .i64 q.t.lab.v, .int .i64 0, .int .i64 0, .slice none 0 0, .slice none 0 0, .int .i64 q.t.to]) Xx rfl rfl (hS203.blk.rangeL 0 8 rfl) rfl ?_
    have k205 := ((k200.grown0 hN197.grw).gn hS203.grw)
    refine wpo_storen (vs := [.int .i64 q.t.kind, .int .i64 q.t.lab.s, .int .i64 q.t.lab.v, .int .i64 0, .int .i64 0, .slice none 0 0, .slice none 0 0, .int .i64 q.t.to]) (cs' := #[.int .i64 q.t.kind, .int .i64 q.t.lab.s, .int .i64 q.t.lab.v, .int .i64 0, .int .i64 0, .slice none 0 0, .slice none 0 0, .int .i64 q.t.to]) Xx rfl rfl rfl (by simp [Value.oneCell']) k205 (Nat.le_of_ble_eq_true rfl) rfl ?_
    intro w206 hS207
    have hb208 := low1 hb204 hS207.grw (by omega)
    refine wpo_nil ?_
    refine Xj ?_
    have hv : viewTh q.t l = ⟨q.t.kind, q.t.lab, 0, 0, [], [], q.t.to⟩ := Mt h119 h188 h137
    rw [hv]
    refine ⟨.agg #[.int .i64 q.t.kind, .int .i64 q.t.lab.s, .int .i64 q.t.lab.v, .int .i64 0, .int .i64 0, .slice none 0 0, .slice none 0 0, .int .i64 q.t.to], resC rfl (resCell_mk (vs := [.int .i64 q.t.kind, .int .i64 q.t.lab.s, .int .i64 q.t.lab.v, .int .i64 0, .int .i64 0, .slice none 0 0, .slice none 0 0, .int .i64 q.t.to]) Xx rfl rfl (hS207.blk.rangeL 0 8 rfl)), none, 0, none, 0, rfl, OwnN.nil, OwnN.nil, hb208⟩
   ·
    have k209 := (k115.grown0 hg117)
    have k210 := (hN111.blk.grown0 hg117)
    have h211 : thingOk (⟨q.t.kind, q.t.lab, 0, 0, [], [], q.t.to⟩ : Th) = false := (Jv h137).symm.trans h188
    refine Xh (vs := [.int .i64 q.t.kind, .agg #[.int .i64 q.t.lab.s, .int .i64 q.t.lab.v], .int .i64 q.t.to]) S1 (Xb rfl (Xb rfl (Xb rfl Xg))) rfl (Nu q.t.kind q.t.to q.t.lab h137 h188 _) ?_
    rintro _ w212 ⟨rfl, hg213⟩
    have hb214 := low0 hb118 hg213
    refine wpo_move (v := .tuple #[.agg #[.int .i64 0, .int .i64 0, .int .i64 0, .int .i64 0, .int .i64 0, .slice none 0 0, .slice none 0 0, .int .i64 0], .bool false]) rfl rfl ?_
    refine wpo_extract (v := .agg #[.int .i64 0, .int .i64 0, .int .i64 0, .int .i64 0, .int .i64 0, .slice none 0 0, .slice none 0 0, .int .i64 0]) rfl rfl rfl ?_
    refine wpo_extract (v := .bool false) rfl rfl rfl ?_
    refine wpo_alloc (cs := #[.int .i64 0, .int .i64 0, .int .i64 0, .int .i64 0, .int .i64 0, .slice none 0 0, .slice none 0 0, .int .i64 0]) Q6 rfl rfl ?_
    intro B215 w216 hN217
    have hlB215 := X1 hN217 hb214
    have k218 := (k136.grown0 hg213)
    have lt_B101_B215 := Xo hN217 (k218).lt
    have k219 := (k209.grown0 hg213)
    have lt_B105_B215 := Xo hN217 (k219).lt
    have k220 := (k210.grown0 hg213)
    have lt_B109_B215 := Xo hN217 (k220).lt
    have hb221 := low0 hb214 hN217.grw
    refine wpo_storen (vs := [.int .i64 0, .int .i64 0, .int .i64 0, .int .i64 0, .int .i64 0, .slice none 0 0, .slice none 0 0, .int .i64 0]) (cs' := #[.int .i64 0, .int .i64 0, .int .i64 0, .int .i64 0, .int .i64 0, .slice none 0 0, .slice none 0 0, .int .i64 0]) Xx rfl rfl rfl (by simp [Value.oneCell']) hN217.blk (Nat.le_of_ble_eq_true rfl) rfl ?_
    intro w222 hS223
    have hb224 := low1 hb221 hS223.grw (by omega)
    refine wpo_assign (v := .bool false) rfl rfl ?_
    refine wpo_nil ?_
    refine Xa ?_
    refine wpo_loadn (vs := [.int .i64 0, .int .i64 0, .int .i64 0, .int .i64 0, .int .i64 0, .slice none 0 0, .slice none 0 0, .int .i64 0]) Xx rfl rfl (hS223.blk.rangeL 0 8 rfl) rfl ?_
    have k225 := ((k220.grown0 hN217.grw).gn hS223.grw)
    refine wpo_storen (vs := [.int .i64 0, .int .i64 0, .int .i64 0, .int .i64 0, .int .i64 0, .slice none 0 0, .slice none 0 0, .int .i64 0]) (cs' := #[.int .i64 0, .int .i64 0, .int .i64 0, .int .i64 0, .int .i64 0, .slice none 0 0, .slice none 0 0, .int .i64 0]) Xx rfl rfl rfl (by simp [Value.oneCell']) k225 (Nat.le_of_ble_eq_true rfl) rfl ?_
    intro w226 hS227
    have hb228 := low1 hb224 hS227.grw (by omega)
    refine wpo_nil ?_
    refine Xj ?_
    have hv : viewTh q.t l = Th.zero := Rf h119 h188
    rw [hv]
    refine ⟨.agg #[.int .i64 0, .int .i64 0, .int .i64 0, .int .i64 0, .int .i64 0, .slice none 0 0, .slice none 0 0, .int .i64 0], resC rfl (resCell_mk (vs := [.int .i64 0, .int .i64 0, .int .i64 0, .int .i64 0, .int .i64 0, .slice none 0 0, .slice none 0 0, .int .i64 0]) Xx rfl rfl (hS227.blk.rangeL 0 8 rfl)), none, 0, none, 0, rfl, OwnN.nil, OwnN.nil, hb228⟩
end Go.Dw.J
end
section
namespace Go.Dw.J
open Go.RowKit Go.Dw Go.Proofs
set_option linter.unusedSectionVars false
set_option maxRecDepth 100000
set_option maxHeartbeats 4000000
set_option linter.unusedSimpArgs false
set_option linter.unusedVariables false
theorem H6 : goFn Try.prog 37 = true := by kernel_rfl
theorem U0 [Comp] (k : Int) (l : Lab) (hk : -9223372036854775808 ≤ k ∧ k ≤ 9223372036854775807) (w : World) (ms : List MTh) (a : Option Addr) (c : Nat) (ht : TabAt w a ms) (hlen : TabLen ms) (hn : ms.length ≤ 1048576) : CallsR Try.prog 21 #[.slice a ms.length c, .int .i64 k, .agg #[.int .i64 l.s, .int .i64 l.v]] w (fun v w' => v = .bool (viewHigh (tabT ms) k l) ∧ w.grownBy w' none) := by
 refine Xp (n := 29) Try.func21 rfl Try.ntmps21 rfl ?_
 have hb0 := World.grownBy.refl w none
 refine Xa ?_
 refine wpo_box (v := .agg #[.int .i64 l.s, .int .i64 l.v]) (cs := #[.int .i64 l.s, .int .i64 l.v]) rfl rfl rfl ?_
 intro B101 w102 hN103
 have hlB101 := X1 hN103 hb0
 have hb104 := low0 hb0 hN103.grw
 refine wpo_assign (v := .bool false) rfl rfl ?_
 refine wpo_nil ?_
 refine Kl (fun f' w' => (f' 6 = .bool (((tableOk (tabT ms) && labelOk l) && inR k 1 (ms.length : Int)) && (!labelFlow ((mAt ms ((k - 1).toNat)).t.lab) l))) ∧ w102.grownBy w' none) ?_ ?_
 ·
  rcases Xy (tableOk (tabT ms)) with h134 | h134
  ·
   rcases Xy (labelOk l) with h142 | h142
   ·
    rcases Xy (inR k 1 (ms.length : Int)) with h153 | h153
    ·
     have hr154 := Kh.1 h153
     obtain ⟨b190, q191, o192, ha193, ho194, hr195⟩ := SlAt.at (TabAt.low ht hb104).1 (Yh (Xz (show (k - 1).toNat < ms.length by omega)))
     have hle196 := TabLen.at hlen (Xz (show (k - 1).toNat < ms.length by omega))
     refine Qh (m := 19) (vals := [(7, .slice a ms.length c), (8, .bool (tableOk (tabT ms))), (9, .bool (tableOk (tabT ms))), (10, .agg #[.int .i64 l.s, .int .i64 l.v]), (11, .bool (labelOk l)), (12, .bool (labelOk l)), (13, .bool (labelOk l)), (14, .slice a ms.length c), (15, .int .i64 k), (16, .bool (inR k 1 (ms.length : Int))), (17, .bool (inR k 1 (ms.length : Int))), (18, .bool (inR k 1 (ms.length : Int))), (19, .slice a ms.length c), (20, .int .i64 k), (21, .int .i64 (k - 1)), (22, .pointer (some ⟨b190, o192, none⟩)), (23, .pointer (some ⟨b190, o192 + 1, none⟩)), (24, .agg #[.int .i64 ((mAt ms ((k - 1).toNat)).t.lab.s), .int .i64 ((mAt ms ((k - 1).toNat)).t.lab.v)]), (25, .agg #[.int .i64 l.s, .int .i64 l.v])]) (fun w' => w102.grownBy w' none) Qq (by kernel_rfl) (X5 _) ?_ ?_
     ·
      refine Xd rfl (fun w212 hi213 => ?_) ?_
      ·
       have hb214 := low0 hb104 hi213
       refine wpo_move (v := .slice a ms.length c) rfl rfl ?_
       exact wpo_nil ⟨rfl, hi213⟩
      refine Xd rfl (fun w215 hi216 => ?_) ?_
      ·
       have hb217 := low0 hb104 hi216
       refine Xh (vs := [.slice a ms.length c]) H6 (Xb rfl Xg) rfl (Ka  _ ms _ _ (TabAt.low ht hb217) hlen (by omega)) ?_
       rintro _ w218 ⟨rfl, hg219⟩
       have hb220 := low0 hb217 hg219
       exact wpo_nil ⟨rfl, (Xf hi216 hg219)⟩
      refine Xd rfl (fun w221 hi222 => ?_) ?_
      ·
       have hb223 := low0 hb104 hi222
       refine wpo_move (v := .bool (tableOk (tabT ms))) rfl rfl ?_
       exact wpo_nil ⟨rfl, hi222⟩
      refine Xd rfl (fun w224 hi225 => ?_) ?_
      ·
       have hb226 := low0 hb104 hi225
       refine Xc rfl rfl rfl h134 ?_
       have k227 := (hN103.blk.grown0 hi225)
       refine wpo_loadn (vs := [.int .i64 l.s, .int .i64 l.v]) Yr rfl rfl (k227.rangeL 0 2 rfl) rfl ?_
       exact wpo_nil ⟨rfl, hi225⟩
      refine Xd rfl (fun w228 hi229 => ?_) ?_
      ·
       have hb230 := low0 hb104 hi229
       refine Xc rfl rfl rfl h134 ?_
       refine Xh (vs := [.agg #[.int .i64 l.s, .int .i64 l.v]]) Hf (Xb rfl Xg) rfl (J1 l _) ?_
       rintro _ w231 ⟨rfl, hg232⟩
       have hb233 := low0 hb230 hg232
       exact wpo_nil ⟨rfl, (Xf hi229 hg232)⟩
      refine Xd rfl (fun w234 hi235 => ?_) ?_
      ·
       have hb236 := low0 hb104 hi235
       refine wpo_pickt (v := .bool (labelOk l)) rfl h134 rfl rfl ?_
       exact wpo_nil ⟨rfl, hi235⟩
      refine Xd rfl (fun w237 hi238 => ?_) ?_
      ·
       have hb239 := low0 hb104 hi238
       refine wpo_move (v := .bool (labelOk l)) rfl rfl ?_
       exact wpo_nil ⟨rfl, hi238⟩
      refine Xd rfl (fun w240 hi241 => ?_) ?_
      ·
       have hb242 := low0 hb104 hi241
       refine Xc rfl rfl rfl h142 ?_
       refine wpo_move (v := .slice a ms.length c) rfl rfl ?_
       exact wpo_nil ⟨rfl, hi241⟩
      refine Xd rfl (fun w243 hi244 => ?_) ?_
      ·
       have hb245 := low0 hb104 hi244
       refine Xc rfl rfl rfl h142 ?_
       refine wpo_move (v := .int .i64 k) rfl rfl ?_
       exact wpo_nil ⟨rfl, hi244⟩
      refine Xd rfl (fun w246 hi247 => ?_) ?_
      ·
       have hb248 := low0 hb104 hi247
       refine Xc rfl rfl rfl h142 ?_
       refine Xh (vs := [.slice a ms.length c, .int .i64 k]) Pe (Xb rfl (Xb rfl Xg)) rfl (Ju k _ _ _ _) ?_
       rintro _ w249 ⟨rfl, hg250⟩
       have hb251 := low0 hb248 hg250
       exact wpo_nil ⟨rfl, (Xf hi247 hg250)⟩
      refine Xd rfl (fun w252 hi253 => ?_) ?_
      ·
       have hb254 := low0 hb104 hi253
       refine wpo_pickt (v := .bool (inR k 1 (ms.length : Int))) rfl h142 rfl rfl ?_
       exact wpo_nil ⟨rfl, hi253⟩
      refine Xd rfl (fun w255 hi256 => ?_) ?_
      ·
       have hb257 := low0 hb104 hi256
       refine wpo_move (v := .bool (inR k 1 (ms.length : Int))) rfl rfl ?_
       exact wpo_nil ⟨rfl, hi256⟩
      refine Xd rfl (fun w258 hi259 => ?_) ?_
      ·
       have hb260 := low0 hb104 hi259
       refine Xc rfl rfl rfl h153 ?_
       refine wpo_move (v := .slice a ms.length c) rfl rfl ?_
       exact wpo_nil ⟨rfl, hi259⟩
      refine Xd rfl (fun w261 hi262 => ?_) ?_
      ·
       have hb263 := low0 hb104 hi262
       refine Xc rfl rfl rfl h153 ?_
       refine wpo_move (v := .int .i64 k) rfl rfl ?_
       exact wpo_nil ⟨rfl, hi262⟩
      refine Xd rfl (fun w264 hi265 => ?_) ?_
      ·
       have hb266 := low0 hb104 hi265
       refine Xc rfl rfl rfl h153 ?_
       refine wpo_sub (c := k - 1) rfl rfl (by omega) (by omega) (by omega) rfl ?_
       exact wpo_nil ⟨rfl, hi265⟩
      refine Xd rfl (fun w267 hi268 => ?_) ?_
      ·
       have hb269 := low0 hb104 hi268
       refine Xc rfl rfl rfl h153 ?_
       refine X2 Qp rfl rfl ha193 ho194 (by omega) (by omega) rfl ?_
       exact wpo_nil ⟨rfl, hi268⟩
      refine Xd rfl (fun w270 hi271 => ?_) ?_
      ·
       have hb272 := low0 hb104 hi271
       refine Xc rfl rfl rfl h153 ?_
       refine wpo_fieldAddr (o' := o192 + 1) J7 rfl rfl rfl ?_
       exact wpo_nil ⟨rfl, hi271⟩
      refine Xd rfl (fun w273 hi274 => ?_) ?_
      ·
       have hb275 := low0 hb104 hi274
       refine Xc rfl rfl rfl h153 ?_
       refine wpo_loadn (vs := [.int .i64 ((mAt ms ((k - 1).toNat)).t.lab.s), .int .i64 ((mAt ms ((k - 1).toNat)).t.lab.v)]) Yr rfl rfl (Qa (Yp hr195 hi274) 1 2 rfl) rfl ?_
       exact wpo_nil ⟨rfl, hi274⟩
      refine Xd rfl (fun w276 hi277 => ?_) ?_
      ·
       have hb278 := low0 hb104 hi277
       refine Xc rfl rfl rfl h153 ?_
       have k279 := (hN103.blk.grown0 hi277)
       refine wpo_loadn (vs := [.int .i64 l.s, .int .i64 l.v]) Yr rfl rfl (k279.rangeL 0 2 rfl) rfl ?_
       exact wpo_nil ⟨rfl, hi277⟩
      exact Q0
     ·
      intro w280 hi281
      have hb282 := low0 hb104 hi281
      refine Xc rfl rfl rfl h153 ?_
      refine Xh (vs := [.agg #[.int .i64 ((mAt ms ((k - 1).toNat)).t.lab.s), .int .i64 ((mAt ms ((k - 1).toNat)).t.lab.v)], .agg #[.int .i64 l.s, .int .i64 l.v]]) Em (Xb rfl (Xb rfl Xg)) rfl (Gi ((mAt ms ((k - 1).toNat)).t.lab) l _) ?_
      rintro _ w283 ⟨rfl, hg284⟩
      have hb285 := low0 hb282 hg284
      refine Xc rfl rfl rfl h153 ?_
      refine wpo_not (b' := !labelFlow ((mAt ms ((k - 1).toNat)).t.lab) l) rfl rfl rfl ?_
      refine wpo_pickt (v := .bool (!labelFlow ((mAt ms ((k - 1).toNat)).t.lab) l)) rfl h153 rfl rfl ?_
      refine wpo_assign (v := .bool (!labelFlow ((mAt ms ((k - 1).toNat)).t.lab) l)) rfl rfl ?_
      exact wpo_nil (Xn ⟨(congrArg Value.bool (by first | (simp only [h134, h142, h153, b0, b1, b2, b3, b4, b5, b6, b7, b8, b9]; done) | simp [h134, h142, h153])), (Xf hi281 hg284)⟩)
    ·
     refine Qh (m := 19) (vals := [(7, .slice a ms.length c), (8, .bool (tableOk (tabT ms))), (9, .bool (tableOk (tabT ms))), (10, .agg #[.int .i64 l.s, .int .i64 l.v]), (11, .bool (labelOk l)), (12, .bool (labelOk l)), (13, .bool (labelOk l)), (14, .slice a ms.length c), (15, .int .i64 k), (16, .bool (inR k 1 (ms.length : Int))), (17, .bool (inR k 1 (ms.length : Int))), (18, .bool (inR k 1 (ms.length : Int))), (19, undef), (20, undef), (21, undef), (22, undef), (23, undef), (24, undef), (25, undef)]) (fun w' => w102.grownBy w' none) Qq (by kernel_rfl) (X5 _) ?_ ?_
     ·
      refine Xd rfl (fun w316 hi317 => ?_) ?_
      ·
       have hb318 := low0 hb104 hi317
       refine wpo_move (v := .slice a ms.length c) rfl rfl ?_
       exact wpo_nil ⟨rfl, hi317⟩
      refine Xd rfl (fun w319 hi320 => ?_) ?_
      ·
       have hb321 := low0 hb104 hi320
       refine Xh (vs := [.slice a ms.length c]) H6 (Xb rfl Xg) rfl (Ka  _ ms _ _ (TabAt.low ht hb321) hlen (by omega)) ?_
       rintro _ w322 ⟨rfl, hg323⟩
       have hb324 := low0 hb321 hg323
       exact wpo_nil ⟨rfl, (Xf hi320 hg323)⟩
      refine Xd rfl (fun w325 hi326 => ?_) ?_
      ·
       have hb327 := low0 hb104 hi326
       refine wpo_move (v := .bool (tableOk (tabT ms))) rfl rfl ?_
       exact wpo_nil ⟨rfl, hi326⟩
      refine Xd rfl (fun w328 hi329 => ?_) ?_
      ·
       have hb330 := low0 hb104 hi329
       refine Xc rfl rfl rfl h134 ?_
       have k331 := (hN103.blk.grown0 hi329)
       refine wpo_loadn (vs := [.int .i64 l.s, .int .i64 l.v]) Yr rfl rfl (k331.rangeL 0 2 rfl) rfl ?_
       exact wpo_nil ⟨rfl, hi329⟩
      refine Xd rfl (fun w332 hi333 => ?_) ?_
      ·
       have hb334 := low0 hb104 hi333
       refine Xc rfl rfl rfl h134 ?_
       refine Xh (vs := [.agg #[.int .i64 l.s, .int .i64 l.v]]) Hf (Xb rfl Xg) rfl (J1 l _) ?_
       rintro _ w335 ⟨rfl, hg336⟩
       have hb337 := low0 hb334 hg336
       exact wpo_nil ⟨rfl, (Xf hi333 hg336)⟩
      refine Xd rfl (fun w338 hi339 => ?_) ?_
      ·
       have hb340 := low0 hb104 hi339
       refine wpo_pickt (v := .bool (labelOk l)) rfl h134 rfl rfl ?_
       exact wpo_nil ⟨rfl, hi339⟩
      refine Xd rfl (fun w341 hi342 => ?_) ?_
      ·
       have hb343 := low0 hb104 hi342
       refine wpo_move (v := .bool (labelOk l)) rfl rfl ?_
       exact wpo_nil ⟨rfl, hi342⟩
      refine Xd rfl (fun w344 hi345 => ?_) ?_
      ·
       have hb346 := low0 hb104 hi345
       refine Xc rfl rfl rfl h142 ?_
       refine wpo_move (v := .slice a ms.length c) rfl rfl ?_
       exact wpo_nil ⟨rfl, hi345⟩
      refine Xd rfl (fun w347 hi348 => ?_) ?_
      ·
       have hb349 := low0 hb104 hi348
       refine Xc rfl rfl rfl h142 ?_
       refine wpo_move (v := .int .i64 k) rfl rfl ?_
       exact wpo_nil ⟨rfl, hi348⟩
      refine Xd rfl (fun w350 hi351 => ?_) ?_
      ·
       have hb352 := low0 hb104 hi351
       refine Xc rfl rfl rfl h142 ?_
       refine Xh (vs := [.slice a ms.length c, .int .i64 k]) Pe (Xb rfl (Xb rfl Xg)) rfl (Ju k _ _ _ _) ?_
       rintro _ w353 ⟨rfl, hg354⟩
       have hb355 := low0 hb352 hg354
       exact wpo_nil ⟨rfl, (Xf hi351 hg354)⟩
      refine Xd rfl (fun w356 hi357 => ?_) ?_
      ·
       have hb358 := low0 hb104 hi357
       refine wpo_pickt (v := .bool (inR k 1 (ms.length : Int))) rfl h142 rfl rfl ?_
       exact wpo_nil ⟨rfl, hi357⟩
      refine Xd rfl (fun w359 hi360 => ?_) ?_
      ·
       have hb361 := low0 hb104 hi360
       refine wpo_move (v := .bool (inR k 1 (ms.length : Int))) rfl rfl ?_
       exact wpo_nil ⟨rfl, hi360⟩
      refine Xd rfl (fun w362 hi363 => ?_) ?_
      ·
       have hb364 := low0 hb104 hi363
       refine Xe rfl rfl rfl h153 rfl ?_
       exact wpo_nil ⟨rfl, hi363⟩
      refine Xd rfl (fun w365 hi366 => ?_) ?_
      ·
       have hb367 := low0 hb104 hi366
       refine Xe rfl rfl rfl h153 rfl ?_
       exact wpo_nil ⟨rfl, hi366⟩
      refine Xd rfl (fun w368 hi369 => ?_) ?_
      ·
       have hb370 := low0 hb104 hi369
       refine Xe rfl rfl rfl h153 rfl ?_
       exact wpo_nil ⟨rfl, hi369⟩
      refine Xd rfl (fun w371 hi372 => ?_) ?_
      ·
       have hb373 := low0 hb104 hi372
       refine Xe rfl rfl rfl h153 rfl ?_
       exact wpo_nil ⟨rfl, hi372⟩
      refine Xd rfl (fun w374 hi375 => ?_) ?_
      ·
       have hb376 := low0 hb104 hi375
       refine Xe rfl rfl rfl h153 rfl ?_
       exact wpo_nil ⟨rfl, hi375⟩
      refine Xd rfl (fun w377 hi378 => ?_) ?_
      ·
       have hb379 := low0 hb104 hi378
       refine Xe rfl rfl rfl h153 rfl ?_
       exact wpo_nil ⟨rfl, hi378⟩
      refine Xd rfl (fun w380 hi381 => ?_) ?_
      ·
       have hb382 := low0 hb104 hi381
       refine Xe rfl rfl rfl h153 rfl ?_
       exact wpo_nil ⟨rfl, hi381⟩
      exact Q0
     ·
      intro w383 hi384
      have hb385 := low0 hb104 hi384
      refine Xe rfl rfl rfl h153 rfl ?_
      refine Xe rfl rfl rfl h153 rfl ?_
      refine wpo_pickf (v := .bool false) rfl h153 rfl rfl ?_
      refine wpo_assign (v := .bool false) rfl rfl ?_
      exact wpo_nil (Xn ⟨(congrArg Value.bool (by first | (simp only [h134, h142, h153, b0, b1, b2, b3, b4, b5, b6, b7, b8, b9]; done) | simp [h134, h142, h153])), hi384⟩)
   ·
    refine Qh (m := 19) (vals := [(7, .slice a ms.length c), (8, .bool (tableOk (tabT ms))), (9, .bool (tableOk (tabT ms))), (10, .agg #[.int .i64 l.s, .int .i64 l.v]), (11, .bool (labelOk l)), (12, .bool (labelOk l)), (13, .bool (labelOk l)), (14, undef), (15, undef), (16, undef), (17, .bool false), (18, .bool false), (19, undef), (20, undef), (21, undef), (22, undef), (23, undef), (24, undef), (25, undef)]) (fun w' => w102.grownBy w' none) Qq (by kernel_rfl) (X5 _) ?_ ?_
    ·
     refine Xd rfl (fun w407 hi408 => ?_) ?_
     ·
      have hb409 := low0 hb104 hi408
      refine wpo_move (v := .slice a ms.length c) rfl rfl ?_
      exact wpo_nil ⟨rfl, hi408⟩
     refine Xd rfl (fun w410 hi411 => ?_) ?_
     ·
      have hb412 := low0 hb104 hi411
      refine Xh (vs := [.slice a ms.length c]) H6 (Xb rfl Xg) rfl (Ka  _ ms _ _ (TabAt.low ht hb412) hlen (by omega)) ?_
      rintro _ w413 ⟨rfl, hg414⟩
      have hb415 := low0 hb412 hg414
      exact wpo_nil ⟨rfl, (Xf hi411 hg414)⟩
     refine Xd rfl (fun w416 hi417 => ?_) ?_
     ·
      have hb418 := low0 hb104 hi417
      refine wpo_move (v := .bool (tableOk (tabT ms))) rfl rfl ?_
      exact wpo_nil ⟨rfl, hi417⟩
     refine Xd rfl (fun w419 hi420 => ?_) ?_
     ·
      have hb421 := low0 hb104 hi420
      refine Xc rfl rfl rfl h134 ?_
      have k422 := (hN103.blk.grown0 hi420)
      refine wpo_loadn (vs := [.int .i64 l.s, .int .i64 l.v]) Yr rfl rfl (k422.rangeL 0 2 rfl) rfl ?_
      exact wpo_nil ⟨rfl, hi420⟩
     refine Xd rfl (fun w423 hi424 => ?_) ?_
     ·
      have hb425 := low0 hb104 hi424
      refine Xc rfl rfl rfl h134 ?_
      refine Xh (vs := [.agg #[.int .i64 l.s, .int .i64 l.v]]) Hf (Xb rfl Xg) rfl (J1 l _) ?_
      rintro _ w426 ⟨rfl, hg427⟩
      have hb428 := low0 hb425 hg427
      exact wpo_nil ⟨rfl, (Xf hi424 hg427)⟩
     refine Xd rfl (fun w429 hi430 => ?_) ?_
     ·
      have hb431 := low0 hb104 hi430
      refine wpo_pickt (v := .bool (labelOk l)) rfl h134 rfl rfl ?_
      exact wpo_nil ⟨rfl, hi430⟩
     refine Xd rfl (fun w432 hi433 => ?_) ?_
     ·
      have hb434 := low0 hb104 hi433
      refine wpo_move (v := .bool (labelOk l)) rfl rfl ?_
      exact wpo_nil ⟨rfl, hi433⟩
     refine Xd rfl (fun w435 hi436 => ?_) ?_
     ·
      have hb437 := low0 hb104 hi436
      refine Xe rfl rfl rfl h142 rfl ?_
      exact wpo_nil ⟨rfl, hi436⟩
     refine Xd rfl (fun w438 hi439 => ?_) ?_
     ·
      have hb440 := low0 hb104 hi439
      refine Xe rfl rfl rfl h142 rfl ?_
      exact wpo_nil ⟨rfl, hi439⟩
     refine Xd rfl (fun w441 hi442 => ?_) ?_
     ·
      have hb443 := low0 hb104 hi442
      refine Xe rfl rfl rfl h142 rfl ?_
      exact wpo_nil ⟨rfl, hi442⟩
     refine Xd rfl (fun w444 hi445 => ?_) ?_
     ·
      have hb446 := low0 hb104 hi445
      refine wpo_pickf (v := .bool false) rfl h142 rfl rfl ?_
      exact wpo_nil ⟨rfl, hi445⟩
     refine Xd rfl (fun w447 hi448 => ?_) ?_
     ·
      have hb449 := low0 hb104 hi448
      refine wpo_move (v := .bool false) rfl rfl ?_
      exact wpo_nil ⟨rfl, hi448⟩
     refine Xd rfl (fun w450 hi451 => ?_) ?_
     ·
      have hb452 := low0 hb104 hi451
      refine Xe rfl rfl rfl rfl rfl ?_
      exact wpo_nil ⟨rfl, hi451⟩
     refine Xd rfl (fun w453 hi454 => ?_) ?_
     ·
      have hb455 := low0 hb104 hi454
      refine Xe rfl rfl rfl rfl rfl ?_
      exact wpo_nil ⟨rfl, hi454⟩
     refine Xd rfl (fun w456 hi457 => ?_) ?_
     ·
      have hb458 := low0 hb104 hi457
      refine Xe rfl rfl rfl rfl rfl ?_
      exact wpo_nil ⟨rfl, hi457⟩
     refine Xd rfl (fun w459 hi460 => ?_) ?_
     ·
      have hb461 := low0 hb104 hi460
      refine Xe rfl rfl rfl rfl rfl ?_
      exact wpo_nil ⟨rfl, hi460⟩
     refine Xd rfl (fun w462 hi463 => ?_) ?_
     ·
      have hb464 := low0 hb104 hi463
      refine Xe rfl rfl rfl rfl rfl ?_
      exact wpo_nil ⟨rfl, hi463⟩
     refine Xd rfl (fun w465 hi466 => ?_) ?_
     ·
      have hb467 := low0 hb104 hi466
      refine Xe rfl rfl rfl rfl rfl ?_
      exact wpo_nil ⟨rfl, hi466⟩
     refine Xd rfl (fun w468 hi469 => ?_) ?_
     ·
      have hb470 := low0 hb104 hi469
      refine Xe rfl rfl rfl rfl rfl ?_
      exact wpo_nil ⟨rfl, hi469⟩
     exact Q0
    ·
     intro w471 hi472
     have hb473 := low0 hb104 hi472
     refine Xe rfl rfl rfl rfl rfl ?_
     refine Xe rfl rfl rfl rfl rfl ?_
     refine wpo_pickf (v := .bool false) rfl rfl rfl rfl ?_
     refine wpo_assign (v := .bool false) rfl rfl ?_
     exact wpo_nil (Xn ⟨(congrArg Value.bool (by first | (simp only [h134, h142, b0, b1, b2, b3, b4, b5, b6, b7, b8, b9]; done) | simp [h134, h142])), hi472⟩)
  ·
   refine Qh (m := 19) (vals := [(7, .slice a ms.length c), (8, .bool (tableOk (tabT ms))), (9, .bool (tableOk (tabT ms))), (10, undef), (11, undef), (12, .bool false), (13, .bool false), (14, undef), (15, undef), (16, undef), (17, .bool false), (18, .bool false), (19, undef), (20, undef), (21, undef), (22, undef), (23, undef), (24, undef), (25, undef)]) (fun w' => w102.grownBy w' none) Qq (by kernel_rfl) (X5 _) ?_ ?_
   ·
    refine Xd rfl (fun w483 hi484 => ?_) ?_
    ·
     have hb485 := low0 hb104 hi484
     refine wpo_move (v := .slice a ms.length c) rfl rfl ?_
     exact wpo_nil ⟨rfl, hi484⟩
    refine Xd rfl (fun w486 hi487 => ?_) ?_
    ·
     have hb488 := low0 hb104 hi487
     refine Xh (vs := [.slice a ms.length c]) H6 (Xb rfl Xg) rfl (Ka  _ ms _ _ (TabAt.low ht hb488) hlen (by omega)) ?_
     rintro _ w489 ⟨rfl, hg490⟩
     have hb491 := low0 hb488 hg490
     exact wpo_nil ⟨rfl, (Xf hi487 hg490)⟩
    refine Xd rfl (fun w492 hi493 => ?_) ?_
    ·
     have hb494 := low0 hb104 hi493
     refine wpo_move (v := .bool (tableOk (tabT ms))) rfl rfl ?_
     exact wpo_nil ⟨rfl, hi493⟩
    refine Xd rfl (fun w495 hi496 => ?_) ?_
    ·
     have hb497 := low0 hb104 hi496
     refine Xe rfl rfl rfl h134 rfl ?_
     exact wpo_nil ⟨rfl, hi496⟩
    refine Xd rfl (fun w498 hi499 => ?_) ?_
    ·
     have hb500 := low0 hb104 hi499
     refine Xe rfl rfl rfl h134 rfl ?_
     exact wpo_nil ⟨rfl, hi499⟩
    refine Xd rfl (fun w501 hi502 => ?_) ?_
    ·
     have hb503 := low0 hb104 hi502
     refine wpo_pickf (v := .bool false) rfl h134 rfl rfl ?_
     exact wpo_nil ⟨rfl, hi502⟩
    refine Xd rfl (fun w504 hi505 => ?_) ?_
    ·
     have hb506 := low0 hb104 hi505
     refine wpo_move (v := .bool false) rfl rfl ?_
     exact wpo_nil ⟨rfl, hi505⟩
    refine Xd rfl (fun w507 hi508 => ?_) ?_
    ·
     have hb509 := low0 hb104 hi508
     refine Xe rfl rfl rfl rfl rfl ?_
     exact wpo_nil ⟨rfl, hi508⟩
    refine Xd rfl (fun w510 hi511 => ?_) ?_
    ·
     have hb512 := low0 hb104 hi511
     refine Xe rfl rfl rfl rfl rfl ?_
     exact wpo_nil ⟨rfl, hi511⟩
    refine Xd rfl (fun w513 hi514 => ?_) ?_
    ·
     have hb515 := low0 hb104 hi514
     refine Xe rfl rfl rfl rfl rfl ?_
     exact wpo_nil ⟨rfl, hi514⟩
    refine Xd rfl (fun w516 hi517 => ?_) ?_
    ·
     have hb518 := low0 hb104 hi517
     refine wpo_pickf (v := .bool false) rfl rfl rfl rfl ?_
     exact wpo_nil ⟨rfl, hi517⟩
    refine Xd rfl (fun w519 hi520 => ?_) ?_
    ·
     have hb521 := low0 hb104 hi520
     refine wpo_move (v := .bool false) rfl rfl ?_
     exact wpo_nil ⟨rfl, hi520⟩
    refine Xd rfl (fun w522 hi523 => ?_) ?_
    ·
     have hb524 := low0 hb104 hi523
     refine Xe rfl rfl rfl rfl rfl ?_
     exact wpo_nil ⟨rfl, hi523⟩
    refine Xd rfl (fun w525 hi526 => ?_) ?_
    ·
     have hb527 := low0 hb104 hi526
     refine Xe rfl rfl rfl rfl rfl ?_
     exact wpo_nil ⟨rfl, hi526⟩
    refine Xd rfl (fun w528 hi529 => ?_) ?_
    ·
     have hb530 := low0 hb104 hi529
     refine Xe rfl rfl rfl rfl rfl ?_
     exact wpo_nil ⟨rfl, hi529⟩
    refine Xd rfl (fun w531 hi532 => ?_) ?_
    ·
     have hb533 := low0 hb104 hi532
     refine Xe rfl rfl rfl rfl rfl ?_
     exact wpo_nil ⟨rfl, hi532⟩
    refine Xd rfl (fun w534 hi535 => ?_) ?_
    ·
     have hb536 := low0 hb104 hi535
     refine Xe rfl rfl rfl rfl rfl ?_
     exact wpo_nil ⟨rfl, hi535⟩
    refine Xd rfl (fun w537 hi538 => ?_) ?_
    ·
     have hb539 := low0 hb104 hi538
     refine Xe rfl rfl rfl rfl rfl ?_
     exact wpo_nil ⟨rfl, hi538⟩
    refine Xd rfl (fun w540 hi541 => ?_) ?_
    ·
     have hb542 := low0 hb104 hi541
     refine Xe rfl rfl rfl rfl rfl ?_
     exact wpo_nil ⟨rfl, hi541⟩
    exact Q0
   ·
    intro w543 hi544
    have hb545 := low0 hb104 hi544
    refine Xe rfl rfl rfl rfl rfl ?_
    refine Xe rfl rfl rfl rfl rfl ?_
    refine wpo_pickf (v := .bool false) rfl rfl rfl rfl ?_
    refine wpo_assign (v := .bool false) rfl rfl ?_
    exact wpo_nil (Xn ⟨(congrArg Value.bool (by first | (simp only [h134, b0, b1, b2, b3, b4, b5, b6, b7, b8, b9]; done) | simp [h134])), hi544⟩)
 ·
  rintro f546 w547 ⟨e548, hg549⟩
  have hb550 := low0 hb104 hg549
  refine Xj ?_
  refine ⟨.bool (((tableOk (tabT ms) && labelOk l) && inR k 1 (ms.length : Int)) && (!labelFlow ((mAt ms ((k - 1).toNat)).t.lab) l)), res1 rfl e548, ?_, hb550⟩
  exact congrArg Value.bool H0
end Go.Dw.J
end
section
namespace Go.Dw.J
open Go.RowKit Go.Dw Go.Proofs
set_option linter.unusedSectionVars false
set_option maxRecDepth 100000
set_option maxHeartbeats 4000000
set_option linter.unusedSimpArgs false
set_option linter.unusedVariables false
theorem Fb : goFn Try.prog 109 = true := by kernel_rfl
theorem Fc : goFn Try.prog 110 = true := by kernel_rfl
theorem Ek : goFn Try.prog 15 = true := by kernel_rfl
theorem En : goFn Try.prog 36 = true := by kernel_rfl
theorem Es : goFn Try.prog 70 = true := by kernel_rfl
theorem Gk : goFn Try.prog 93 = true := by kernel_rfl
theorem R2 [Comp] (k to : Int) (p : Int) (hp : 0 ≤ p ∧ p ≤ 1000000000000) (lo R : Nat) (bs : List Int) (a : Option Addr) (c : Nat) (w : World) (hR : Blk w R 97 #[.slice a bs.length c, .int .i64 p]) (hlo : lo ≤ R) (hs : SlLt lo w a 1 (bs.map bcell)) (hb : ∀ b ∈ bs, 0 ≤ b ∧ b ≤ 255) (hn : bs.length ≤ 1048576) : CallsR Try.prog 109 #[.pointer (some ⟨R, 0, none⟩), .int .i64 k, .int .i64 to] w (fun v w' => ∃ (m : MTh) (p' : Int), v = .agg #[.int .i64 m.t.kind, .int .i64 m.t.lab.s, .int .i64 m.t.lab.v, .int .i64 m.t.ve, .int .i64 m.t.num, .slice m.sa m.t.slots.length m.sc, .slice m.qa m.t.queue.length m.qc, .int .i64 m.t.to] ∧ RowD 74 3 w.heap.size w' m ∧ p ≤ p' ∧ p' ≤ p + 12 ∧ Blk w' R 97 #[.slice a bs.length c, .int .i64 p'] ∧ w.grownBy w' (some R)) := by
 refine Xp (n := 59) Try.func109 rfl Try.ntmps109 rfl ?_
 have hb0 := World.grownBy.refl w (some R)
 have hRlt := hR.lt
 refine Xa ?_
 refine wpo_alloc (cs := #[.int .i64 0, .int .i64 0, .int .i64 0, .int .i64 0, .int .i64 0, .slice none 0 0, .slice none 0 0, .int .i64 0]) Q6 rfl rfl ?_
 intro B101 w102 hN103
 have hlB101 := X1 hN103 hb0
 have lt_R_B101 := Xo hN103 (hR).lt
 have hb104 := low0 hb0 hN103.grw
 refine wpo_nil ?_
 refine Xa ?_
 refine wpo_move (v := .int .i64 k) rfl rfl ?_
 refine wpo_move (v := .pointer (some ⟨R, 0, none⟩)) rfl rfl ?_
 have k105 := (hR.grown0 hN103.grw)
 refine Xh (vs := [.pointer (some ⟨R, 0, none⟩)]) En (Xb rfl Xg) rfl (Hi p (by omega) _ R bs _ _ _ k105 (by omega) (SlLt.low1 hs hb104 hlo) (by first | exact hb | exact fun b h => hb b (List.mem_of_mem_take h)) (by first | omega | (rw [List.length_take]; omega))) ?_
 rintro _ w116 ⟨l106, p107, rfl, hr108, hr109, hr110, hr111, hp112, hp113, kR114, hg115⟩
 have hb117 := Xf hb104 hg115
 refine wpo_move (v := .int .i64 to) rfl rfl ?_
 rcases Xy ((decide (k = 2)) || (decide (k = 3))) with h118 | h118
 ·
  rcases Xy (newOk k l106 to) with h119 | h119
  ·
   have k120 := (hN103.blk.gn hg115)
   have h121 : thingOk (⟨k, l106, 0, 0, zeros4, [], to⟩ : Th) = true := (Vd h118).symm.trans h119
   refine Xh (vs := [.int .i64 k, .agg #[.int .i64 l106.s, .int .i64 l106.v], .int .i64 to]) Gk (Xb rfl (Xb rfl (Xb rfl Xg))) rfl (Wv k to l106 h118 h119 _) ?_
   rintro _ w122 ⟨B124, cap125, B128, cap129, rfl, hge126, hO127, hge130, hO131, ne_B124_B128, hg123⟩
   have hb132 := low0 hb117 hg123
   have hlB124 := Nat.le_trans hb117.size hge126
   have lt_R_B124 := Nat.lt_of_lt_of_le (kR114).lt hge126
   have lt_B101_B124 := Nat.lt_of_lt_of_le (k120).lt hge126
   have hlB128 := Nat.le_trans hb117.size hge130
   have lt_R_B128 := Nat.lt_of_lt_of_le (kR114).lt hge130
   have lt_B101_B128 := Nat.lt_of_lt_of_le (k120).lt hge130
   refine wpo_move (v := .tuple #[.agg #[.int .i64 k, .int .i64 l106.s, .int .i64 l106.v, .int .i64 0, .int .i64 0, .slice (some ⟨B124, 0, none⟩) 4 cap125, .slice (some ⟨B128, 0, none⟩) 0 cap129, .int .i64 to], .bool true]) rfl rfl ?_
   refine wpo_extract (v := .agg #[.int .i64 k, .int .i64 l106.s, .int .i64 l106.v, .int .i64 0, .int .i64 0, .slice (some ⟨B124, 0, none⟩) 4 cap125, .slice (some ⟨B128, 0, none⟩) 0 cap129, .int .i64 to]) rfl rfl rfl ?_
   refine wpo_extract (v := .bool true) rfl rfl rfl ?_
   refine wpo_alloc (cs := #[.int .i64 0, .int .i64 0, .int .i64 0, .int .i64 0, .int .i64 0, .slice none 0 0, .slice none 0 0, .int .i64 0]) Q6 rfl rfl ?_
   intro B133 w134 hN135
   have hlB133 := X1 hN135 hb132
   have k136 := (kR114.grown0 hg123)
   have lt_R_B133 := Xo hN135 (k136).lt
   have k137 := (k120.grown0 hg123)
   have lt_B101_B133 := Xo hN135 (k137).lt
   have lt_B128_B133 := Xo hN135 (hO131).lt
   have lt_B124_B133 := Xo hN135 (hO127).lt
   have hb138 := low0 hb132 hN135.grw
   refine wpo_storen (vs := [.int .i64 k, .int .i64 l106.s, .int .i64 l106.v, .int .i64 0, .int .i64 0, .slice (some ⟨B124, 0, none⟩) 4 cap125, .slice (some ⟨B128, 0, none⟩) 0 cap129, .int .i64 to]) (cs' := #[.int .i64 k, .int .i64 l106.s, .int .i64 l106.v, .int .i64 0, .int .i64 0, .slice (some ⟨B124, 0, none⟩) 4 cap125, .slice (some ⟨B128, 0, none⟩) 0 cap129, .int .i64 to]) Xx rfl rfl rfl (by simp [Value.oneCell']) hN135.blk (Nat.le_of_ble_eq_true rfl) rfl ?_
   intro w139 hS140
   have hb141 := low1 hb138 hS140.grw (by omega)
   refine wpo_assign (v := .bool true) rfl rfl ?_
   refine wpo_nil ?_
   refine Xi ?_
   refine Xa ?_
   refine wpo_fieldAddr (o' := 0) X9 rfl rfl rfl ?_
   refine wpo_load1 (v := .int .i64 k) X0 rfl (hS140.blk.cell rfl) rfl ?_
   refine wpo_eql (q := decide (k = 0)) rfl rfl rfl rfl ?_
   refine wpo_nil ?_
   refine Xq rfl (fun h142 => ?_) (fun h142 => ?_)
   ·
    have h143 := of_decide_eq_true h142
    refine Xl ?_
    refine wpo_build (ps := []) (v := .agg #[.int .i64 0, .int .i64 0]) Xw (fun _ => by kernel_rfl) rfl ?_
    have k144 := ((k136.grown0 hN135.grw).gn hS140.grw)
    have k145 := ((k137.grown0 hN135.grw).gn hS140.grw)
    have k146 := ((hO131.grown0 hN135.grw).gn hS140.grw)
    have k147 := ((hO127.grown0 hN135.grw).gn hS140.grw)
    have h148 : thingOk (⟨1, ⟨0, 0⟩, 0, 0, [], [], 0⟩ : Th) = true := (Jv (by decide)).symm.trans (by decide)
    refine Xh (vs := [.int .i64 1, .agg #[.int .i64 0, .int .i64 0], .int .i64 0]) Gk (Xb rfl (Xb rfl (Xb rfl Xg))) rfl (Jp 1 0 ⟨0, 0⟩ (by decide) (by decide) _) ?_
    rintro _ w149 ⟨B151, cap152, B155, cap156, rfl, hge153, hO154, hge157, hO158, ne_B151_B155, hg150⟩
    have hb159 := low0 hb141 hg150
    have hlB151 := Nat.le_trans hb141.size hge153
    have lt_R_B151 := Nat.lt_of_lt_of_le (k144).lt hge153
    have lt_B101_B151 := Nat.lt_of_lt_of_le (k145).lt hge153
    have lt_B128_B151 := Nat.lt_of_lt_of_le (k146).lt hge153
    have lt_B124_B151 := Nat.lt_of_lt_of_le (k147).lt hge153
    have lt_B133_B151 := Nat.lt_of_lt_of_le (hS140.blk).lt hge153
    have hlB155 := Nat.le_trans hb141.size hge157
    have lt_R_B155 := Nat.lt_of_lt_of_le (k144).lt hge157
    have lt_B101_B155 := Nat.lt_of_lt_of_le (k145).lt hge157
    have lt_B128_B155 := Nat.lt_of_lt_of_le (k146).lt hge157
    have lt_B124_B155 := Nat.lt_of_lt_of_le (k147).lt hge157
    have lt_B133_B155 := Nat.lt_of_lt_of_le (hS140.blk).lt hge157
    refine wpo_move (v := .tuple #[.agg #[.int .i64 1, .int .i64 0, .int .i64 0, .int .i64 0, .int .i64 0, .slice (some ⟨B151, 0, none⟩) 0 cap152, .slice (some ⟨B155, 0, none⟩) 0 cap156, .int .i64 0], .bool true]) rfl rfl ?_
    refine wpo_extract (v := .agg #[.int .i64 1, .int .i64 0, .int .i64 0, .int .i64 0, .int .i64 0, .slice (some ⟨B151, 0, none⟩) 0 cap152, .slice (some ⟨B155, 0, none⟩) 0 cap156, .int .i64 0]) rfl rfl rfl ?_
    refine wpo_extract (v := .bool true) rfl rfl rfl ?_
    have k160 := (hS140.blk.grown0 hg150)
    refine wpo_storen (vs := [.int .i64 1, .int .i64 0, .int .i64 0, .int .i64 0, .int .i64 0, .slice (some ⟨B151, 0, none⟩) 0 cap152, .slice (some ⟨B155, 0, none⟩) 0 cap156, .int .i64 0]) (cs' := #[.int .i64 1, .int .i64 0, .int .i64 0, .int .i64 0, .int .i64 0, .slice (some ⟨B151, 0, none⟩) 0 cap152, .slice (some ⟨B155, 0, none⟩) 0 cap156, .int .i64 0]) Xx rfl rfl rfl (by simp [Value.oneCell']) k160 (Nat.le_of_ble_eq_true rfl) rfl ?_
    intro w161 hS162
    have hb163 := low1 hb159 hS162.grw (by omega)
    refine wpo_nil ?_
    refine Xn ?_
    refine Xi ?_
    refine Xa ?_
    refine wpo_fieldAddr (o' := 0) X9 rfl rfl rfl ?_
    refine wpo_load1 (v := .int .i64 1) X0 rfl (hS162.blk.cell rfl) rfl ?_
    refine wpo_nil ?_
    refine Xv ?_
    refine Xa ?_
    refine wpo_eql (q := true) rfl rfl (by decide) rfl ?_
    refine wpo_assign (v := .bool true) rfl rfl ?_
    refine wpo_nil ?_
    refine X8 rfl rfl ?_
    refine Xa ?_
    refine wpo_move (v := .pointer (some ⟨R, 0, none⟩)) rfl rfl ?_
    have k164 := ((k144.grown0 hg150).gn hS162.grw)
    refine Xh (vs := [.pointer (some ⟨R, 0, none⟩), .int .i64 20]) Qb (Xb rfl (Xb rfl Xg)) rfl (Yn p107 20 (by omega) _ R bs _ _ _ k164 (by omega) (SlLt.low1 hs hb163 hlo) (by first | exact hb | exact fun b h => hb b (List.mem_of_mem_take h)) (by first | omega | (rw [List.length_take]; omega))) ?_
    rintro _ w170 ⟨k165, rfl, hk166, hk167, kR168, hg169⟩
    have hb171 := Xf hb163 hg169
    refine wpo_fieldAddr (o' := 4) Q4 rfl rfl rfl ?_
    have k172 := (hS162.blk.gn hg169)
    refine wpo_store1 (v := .int .i64 k165) (cs' := #[.int .i64 1, .int .i64 0, .int .i64 0, .int .i64 0, .int .i64 k165, .slice (some ⟨B151, 0, none⟩) 0 cap152, .slice (some ⟨B155, 0, none⟩) 0 cap156, .int .i64 0]) X0 rfl rfl rfl k172 (Nat.le_of_ble_eq_true rfl) rfl ?_
    intro w173 hS174
    have hb175 := low1 hb171 hS174.grw (by omega)
    refine wpo_nil ?_
    refine Xl ?_
    refine wpo_move (v := .pointer (some ⟨R, 0, none⟩)) rfl rfl ?_
    have k176 := (kR168.gn hS174.grw)
    refine Xh (vs := [.pointer (some ⟨R, 0, none⟩), .int .i64 3]) Qb (Xb rfl (Xb rfl Xg)) rfl (Yn (p107 + 1) 3 (by omega) _ R bs _ _ _ k176 (by omega) (SlLt.low1 hs hb175 hlo) (by first | exact hb | exact fun b h => hb b (List.mem_of_mem_take h)) (by first | omega | (rw [List.length_take]; omega))) ?_
    rintro _ w182 ⟨k177, rfl, hk178, hk179, kR180, hg181⟩
    have hb183 := Xf hb175 hg181
    refine wpo_quo (c := k177 / 2) rfl rfl (by omega) (by omega) (by omega) rfl rfl ?_
    refine wpo_fieldAddr (o' := 3) Qw rfl rfl rfl ?_
    have k184 := (hS174.blk.gn hg181)
    refine wpo_store1 (v := .int .i64 (k177 / 2)) (cs' := #[.int .i64 1, .int .i64 0, .int .i64 0, .int .i64 (k177 / 2), .int .i64 k165, .slice (some ⟨B151, 0, none⟩) 0 cap152, .slice (some ⟨B155, 0, none⟩) 0 cap156, .int .i64 0]) X0 rfl rfl rfl k184 (Nat.le_of_ble_eq_true rfl) rfl ?_
    intro w185 hS186
    have hb187 := low1 hb183 hS186.grw (by omega)
    refine wpo_nil ?_
    refine Yy ?_
    refine Xn ?_
    refine Xa ?_
    refine wpo_loadn (vs := [.int .i64 1, .int .i64 0, .int .i64 0, .int .i64 (k177 / 2), .int .i64 k165, .slice (some ⟨B151, 0, none⟩) 0 cap152, .slice (some ⟨B155, 0, none⟩) 0 cap156, .int .i64 0]) Xx rfl rfl (hS186.blk.rangeL 0 8 rfl) rfl ?_
    have k188 := ((((((k145.grown0 hg150).gn hS162.grw).gn hg169).gn hS174.grw).gn hg181).gn hS186.grw)
    refine wpo_storen (vs := [.int .i64 1, .int .i64 0, .int .i64 0, .int .i64 (k177 / 2), .int .i64 k165, .slice (some ⟨B151, 0, none⟩) 0 cap152, .slice (some ⟨B155, 0, none⟩) 0 cap156, .int .i64 0]) (cs' := #[.int .i64 1, .int .i64 0, .int .i64 0, .int .i64 (k177 / 2), .int .i64 k165, .slice (some ⟨B151, 0, none⟩) 0 cap152, .slice (some ⟨B155, 0, none⟩) 0 cap156, .int .i64 0]) Xx rfl rfl rfl (by simp [Value.oneCell']) k188 (Nat.le_of_ble_eq_true rfl) rfl ?_
    intro w189 hS190
    have hb191 := low1 hb187 hS190.grw (by omega)
    refine wpo_nil ?_
    refine Xj ?_
    have k192 := ((((((hO158.gn hS162.grw).gn hg169).gn hS174.grw).gn hg181).gn hS186.grw).gn hS190.grw)
    have k193 := ((((((hO154.gn hS162.grw).gn hg169).gn hS174.grw).gn hg181).gn hS186.grw).gn hS190.grw)
    have k194 := ((kR180.gn hS186.grw).gn hS190.grw)
    refine ⟨.agg #[.int .i64 1, .int .i64 0, .int .i64 0, .int .i64 (k177 / 2), .int .i64 k165, .slice (some ⟨B151, 0, none⟩) 0 cap152, .slice (some ⟨B155, 0, none⟩) 0 cap156, .int .i64 0], resC rfl (resCell_mk (vs := [.int .i64 1, .int .i64 0, .int .i64 0, .int .i64 (k177 / 2), .int .i64 k165, .slice (some ⟨B151, 0, none⟩) 0 cap152, .slice (some ⟨B155, 0, none⟩) 0 cap156, .int .i64 0]) Xx rfl rfl (hS190.blk.rangeL 0 8 rfl)), ⟨⟨1, ⟨0, 0⟩, k177 / 2, k165, ([] : List Rt), ([] : List Int), 0⟩, some ⟨B151, 0, none⟩, cap152, some ⟨B155, 0, none⟩, cap156⟩, (p107 + 1 + 1), rfl, ⟨OwnN.of k192 hlB155, ⟨([] : List Rt), OwnN.of k193 hlB151, rfl, ?_⟩, ?_, ?_, ⟨show (0 : Int) ≤ k177 / 2 by omega, show k177 / 2 ≤ (1 : Int) by omega⟩⟩, by omega, by omega, k194, hb191⟩
    ·
     intro x hx; first | (simp [zeros4] at hx; subst hx; exact ⟨by decide, by decide, by decide, by decide⟩) | simp at hx
    ·
     first | exact Nat.le_of_ble_eq_true rfl | omega | (simp only [List.length_nil]; omega)
    ·
     exact Nat.le_of_ble_eq_true rfl
   ·
    have h195 := of_decide_eq_false h142
    refine Xk ?_
    refine Xn ?_
    refine Xi ?_
    refine Xa ?_
    refine wpo_fieldAddr (o' := 0) X9 rfl rfl rfl ?_
    refine wpo_load1 (v := .int .i64 k) X0 rfl (hS140.blk.cell rfl) rfl ?_
    refine wpo_nil ?_
    refine Xv ?_
    refine Xa ?_
    refine wpo_eql (q := decide (k = 1)) rfl rfl rfl rfl ?_
    refine wpo_assign (v := .bool (decide (k = 1))) rfl rfl ?_
    refine wpo_nil ?_
    refine Xq rfl (fun h196 => ?_) (fun h196 => ?_)
    ·
     have h197 := of_decide_eq_true h196
     refine Xa ?_
     refine wpo_move (v := .pointer (some ⟨R, 0, none⟩)) rfl rfl ?_
     have k198 := ((k136.grown0 hN135.grw).gn hS140.grw)
     refine Xh (vs := [.pointer (some ⟨R, 0, none⟩), .int .i64 20]) Qb (Xb rfl (Xb rfl Xg)) rfl (Yn p107 20 (by omega) _ R bs _ _ _ k198 (by omega) (SlLt.low1 hs hb141 hlo) (by first | exact hb | exact fun b h => hb b (List.mem_of_mem_take h)) (by first | omega | (rw [List.length_take]; omega))) ?_
     rintro _ w204 ⟨k199, rfl, hk200, hk201, kR202, hg203⟩
     have hb205 := Xf hb141 hg203
     refine wpo_fieldAddr (o' := 4) Q4 rfl rfl rfl ?_
     have k206 := (hS140.blk.gn hg203)
     refine wpo_store1 (v := .int .i64 k199) (cs' := #[.int .i64 k, .int .i64 l106.s, .int .i64 l106.v, .int .i64 0, .int .i64 k199, .slice (some ⟨B124, 0, none⟩) 4 cap125, .slice (some ⟨B128, 0, none⟩) 0 cap129, .int .i64 to]) X0 rfl rfl rfl k206 (Nat.le_of_ble_eq_true rfl) rfl ?_
     intro w207 hS208
     have hb209 := low1 hb205 hS208.grw (by omega)
     refine wpo_nil ?_
     refine Xl ?_
     refine wpo_move (v := .pointer (some ⟨R, 0, none⟩)) rfl rfl ?_
     have k210 := (kR202.gn hS208.grw)
     refine Xh (vs := [.pointer (some ⟨R, 0, none⟩), .int .i64 3]) Qb (Xb rfl (Xb rfl Xg)) rfl (Yn (p107 + 1) 3 (by omega) _ R bs _ _ _ k210 (by omega) (SlLt.low1 hs hb209 hlo) (by first | exact hb | exact fun b h => hb b (List.mem_of_mem_take h)) (by first | omega | (rw [List.length_take]; omega))) ?_
     rintro _ w216 ⟨k211, rfl, hk212, hk213, kR214, hg215⟩
     have hb217 := Xf hb209 hg215
     refine wpo_quo (c := k211 / 2) rfl rfl (by omega) (by omega) (by omega) rfl rfl ?_
     refine wpo_fieldAddr (o' := 3) Qw rfl rfl rfl ?_
     have k218 := (hS208.blk.gn hg215)
     refine wpo_store1 (v := .int .i64 (k211 / 2)) (cs' := #[.int .i64 k, .int .i64 l106.s, .int .i64 l106.v, .int .i64 (k211 / 2), .int .i64 k199, .slice (some ⟨B124, 0, none⟩) 4 cap125, .slice (some ⟨B128, 0, none⟩) 0 cap129, .int .i64 to]) X0 rfl rfl rfl k218 (Nat.le_of_ble_eq_true rfl) rfl ?_
     intro w219 hS220
     have hb221 := low1 hb217 hS220.grw (by omega)
     refine wpo_nil ?_
     refine Yy ?_
     refine Xn ?_
     refine Xa ?_
     refine wpo_loadn (vs := [.int .i64 k, .int .i64 l106.s, .int .i64 l106.v, .int .i64 (k211 / 2), .int .i64 k199, .slice (some ⟨B124, 0, none⟩) 4 cap125, .slice (some ⟨B128, 0, none⟩) 0 cap129, .int .i64 to]) Xx rfl rfl (hS220.blk.rangeL 0 8 rfl) rfl ?_
     have k222 := ((((((k137.grown0 hN135.grw).gn hS140.grw).gn hg203).gn hS208.grw).gn hg215).gn hS220.grw)
     refine wpo_storen (vs := [.int .i64 k, .int .i64 l106.s, .int .i64 l106.v, .int .i64 (k211 / 2), .int .i64 k199, .slice (some ⟨B124, 0, none⟩) 4 cap125, .slice (some ⟨B128, 0, none⟩) 0 cap129, .int .i64 to]) (cs' := #[.int .i64 k, .int .i64 l106.s, .int .i64 l106.v, .int .i64 (k211 / 2), .int .i64 k199, .slice (some ⟨B124, 0, none⟩) 4 cap125, .slice (some ⟨B128, 0, none⟩) 0 cap129, .int .i64 to]) Xx rfl rfl rfl (by simp [Value.oneCell']) k222 (Nat.le_of_ble_eq_true rfl) rfl ?_
     intro w223 hS224
     have hb225 := low1 hb221 hS224.grw (by omega)
     refine wpo_nil ?_
     refine Xj ?_
     have k226 := (((((((hO131.grown0 hN135.grw).gn hS140.grw).gn hg203).gn hS208.grw).gn hg215).gn hS220.grw).gn hS224.grw)
     have k227 := (((((((hO127.grown0 hN135.grw).gn hS140.grw).gn hg203).gn hS208.grw).gn hg215).gn hS220.grw).gn hS224.grw)
     have k228 := ((kR214.gn hS220.grw).gn hS224.grw)
     refine ⟨.agg #[.int .i64 k, .int .i64 l106.s, .int .i64 l106.v, .int .i64 (k211 / 2), .int .i64 k199, .slice (some ⟨B124, 0, none⟩) 4 cap125, .slice (some ⟨B128, 0, none⟩) 0 cap129, .int .i64 to], resC rfl (resCell_mk (vs := [.int .i64 k, .int .i64 l106.s, .int .i64 l106.v, .int .i64 (k211 / 2), .int .i64 k199, .slice (some ⟨B124, 0, none⟩) 4 cap125, .slice (some ⟨B128, 0, none⟩) 0 cap129, .int .i64 to]) Xx rfl rfl (hS224.blk.rangeL 0 8 rfl)), ⟨⟨k, l106, k211 / 2, k199, zeros4, ([] : List Int), to⟩, some ⟨B124, 0, none⟩, cap125, some ⟨B128, 0, none⟩, cap129⟩, (p107 + 1 + 1), rfl, ⟨OwnN.of k226 hlB128, ⟨zeros4, OwnN.of k227 hlB124, rfl, ?_⟩, ?_, ?_, ⟨show (0 : Int) ≤ k211 / 2 by omega, show k211 / 2 ≤ (1 : Int) by omega⟩⟩, by omega, by omega, k228, hb225⟩
     ·
      intro x hx; first | (simp [zeros4] at hx; subst hx; exact ⟨by decide, by decide, by decide, by decide⟩) | simp at hx
     ·
      first | exact Nat.le_of_ble_eq_true rfl | omega | (simp only [List.length_nil]; omega)
     ·
      exact Nat.le_of_ble_eq_true rfl
    ·
     have h229 := of_decide_eq_false h196
     refine Xa ?_
     refine wpo_eql (q := decide (k = 4)) rfl rfl rfl rfl ?_
     refine wpo_assign (v := .bool (decide (k = 4))) rfl rfl ?_
     refine wpo_nil ?_
     refine Xq rfl (fun h230 => ?_) (fun h230 => ?_)
     ·
      have h231 := of_decide_eq_true h230
      refine Xa ?_
      refine wpo_move (v := .pointer (some ⟨R, 0, none⟩)) rfl rfl ?_
      have k232 := ((k136.grown0 hN135.grw).gn hS140.grw)
      refine Xh (vs := [.pointer (some ⟨R, 0, none⟩), .int .i64 4]) Qb (Xb rfl (Xb rfl Xg)) rfl (Yn p107 4 (by omega) _ R bs _ _ _ k232 (by omega) (SlLt.low1 hs hb141 hlo) (by first | exact hb | exact fun b h => hb b (List.mem_of_mem_take h)) (by first | omega | (rw [List.length_take]; omega))) ?_
      rintro _ w238 ⟨k233, rfl, hk234, hk235, kR236, hg237⟩
      have hb239 := Xf hb141 hg237
      refine wpo_assign (v := .int .i64 k233) rfl rfl ?_
      refine wpo_nil ?_
      refine Xv ?_
      have k240 := (((hO131.grown0 hN135.grw).gn hS140.grw).gn hg237)
      have k241 := (((k137.grown0 hN135.grw).gn hS140.grw).gn hg237)
      have k242 := (((hO127.grown0 hN135.grw).gn hS140.grw).gn hg237)
      have k243 := (hS140.blk.gn hg237)
      refine Ye (fun mm f' w' => ∃ (n : Int) (p1 : Int) (Bq : Nat) (cq : Nat) (ys : List Int), mm = n.toNat ∧ (0 ≤ n ∧ n ≤ 3) ∧ (p107 + 1 ≤ p1 ∧ p1 ≤ (p107 + 1) + 3 - n) ∧ (ys.length : Int) ≤ 3 - n ∧ Dw.Own w' Bq 3 1 cq ys.length (ys.flatMap icell) ∧ w.heap.size ≤ Bq ∧ R ≠ Bq ∧ B101 ≠ Bq ∧ B124 ≠ Bq ∧ B133 ≠ Bq ∧ f' 9 = .int .i64 n ∧ f' 0 = .pointer (some ⟨R, 0, none⟩) ∧ f' 6 = .pointer (some ⟨B101, 0, none⟩) ∧ f' 7 = .pointer (some ⟨B133, 0, none⟩) ∧ w.grownBy w' (some R) ∧ Blk w' B101 35 #[.int .i64 0, .int .i64 0, .int .i64 0, .int .i64 0, .int .i64 0, .slice none 0 0, .slice none 0 0, .int .i64 0] ∧ Dw.Own w' B124 74 5 cap125 zeros4.length (zeros4.flatMap Rt.cells) ∧ Blk w' B133 35 #[.int .i64 k, .int .i64 l106.s, .int .i64 l106.v, .int .i64 0, .int .i64 0, .slice (some ⟨B124, 0, none⟩) 4 cap125, .slice (some ⟨Bq, 0, none⟩) ys.length cq, .int .i64 to] ∧ Blk w' R 97 #[.slice a bs.length c, .int .i64 p1]) (k233.toNat) ⟨k233, (p107 + 1), B128, cap129, ([] : List Int), rfl, (by omega), (by omega), (by simp only [List.length_nil]; omega), k240, hlB128, (by omega), (by omega), (by omega), (by omega), rfl, rfl, rfl, rfl, hb239, k241, k242, k243, kR236⟩ ?_
      rintro mm f244 w245 ⟨n, p1, Bq, cq, ys, hm247, hnn, hpp, hyl, hOwn, hlBq, hne0, hne1, hne2, hne3, e248, e249, e250, e251, hb246, k252, k253, k254, k255⟩
      refine Xi ?_
      refine Xa ?_
      refine wpo_move (v := .int .i64 n) e248 rfl ?_
      refine wpo_gtr (q := decide (0 < n)) rfl rfl rfl rfl ?_
      refine wpo_nil ?_
      refine Xq rfl (fun h256 => ?_) (fun h256 => ?_)
      ·
       have h257 := of_decide_eq_true h256
       refine Xk ?_
       refine Xn ?_
       refine Xi ?_
       refine Xv ?_
       refine J4 (m := 5) [[], [0], [], [2], [2, 3], [0, 1, 2, 3, 4], [0, 1, 2, 3, 4, 5], [0, 1, 2, 3, 4, 5, 6]] (fun S F w' => ∃ (k347 : Int) (B354 : Nat), w245.grownBy w' (some R) ∧ F 0 = .pointer (some ⟨R, 0, none⟩) ∧ F 6 = .pointer (some ⟨B101, 0, none⟩) ∧ F 7 = .pointer (some ⟨B133, 0, none⟩) ∧ F 9 = .int .i64 n ∧ (S 3 = false → Blk w' R 97 #[.slice a bs.length c, .int .i64 p1]) ∧ (S 3 = true → F 48 = .int .i64 k347 ∧ 0 ≤ k347 ∧ (k347 < 20 ∨ k347 = 0) ∧ Blk w' R 97 #[.slice a bs.length c, .int .i64 (p1 + 1)]) ∧ (S 4 = true → F 49 = .slice (some ⟨B354, 0, none⟩) 1 1 ∧ w.heap.size ≤ B354 ∧ Blk w' B354 3 (([k347] : List Int).flatMap icell).toArray ∧ B101 < B354 ∧ B124 < B354 ∧ B133 < B354 ∧ R < B354 ∧ Bq < B354 ∧ w245.heap.size ≤ B354) ∧ Vals S F [(0, 45, .pointer (some ⟨B133, 6, none⟩)), (1, 46, .slice (some ⟨Bq, 0, none⟩) ys.length cq), (2, 47, .pointer (some ⟨R, 0, none⟩))]) Qq (by kernel_rfl) ⟨0, 0, X5 _, e249, e250, e251, e248, fun _ => (k255).grown0 (X5 _), Yg, Yg, U9 _⟩ ?_ ?_
       ·
        refine Xu (fun S F w362 hS hbef hcl hI => ?_) ?_
        ·
         obtain ⟨k347, B354, hi363, e364, e365, e366, e367, c_old_R, c_3, c_4, hvs⟩ := hI
         have hb368 := Xf hb246 hi363
         refine wpo_fieldAddr (o' := 6) Qk e366 rfl rfl ?_
         exact wpo_nil ⟨k347, B354, hi363, e364, e365, e366, e367, fun h => c_old_R h, c_3, c_4, Vals.up 0 hvs rfl rfl rfl⟩
        refine Xu (fun S F w369 hS hbef hcl hI => ?_) ?_
        ·
         obtain ⟨k347, B354, hi370, e371, e372, e373, e374, c_old_R, c_3, c_4, hvs⟩ := hI
         have hb375 := Xf hb246 hi370
         have ev376 := Vals.at 0 hvs rfl (Xr 0 hbef rfl)
         have k377 := (k254.gn hi370)
         refine wpo_load1 (v := .slice (some ⟨Bq, 0, none⟩) ys.length cq) Jo ev376 (k377.cell rfl) rfl ?_
         exact wpo_nil ⟨k347, B354, hi370, e371, e372, e373, e374, fun h => c_old_R h, c_3, c_4, Vals.up 1 hvs rfl rfl rfl⟩
        refine Xu (fun S F w378 hS hbef hcl hI => ?_) ?_
        ·
         obtain ⟨k347, B354, hi379, e380, e381, e382, e383, c_old_R, c_3, c_4, hvs⟩ := hI
         have hb384 := Xf hb246 hi379
         refine wpo_move (v := .pointer (some ⟨R, 0, none⟩)) e380 rfl ?_
         exact wpo_nil ⟨k347, B354, hi379, e380, e381, e382, e383, fun h => c_old_R h, fun h => Xt 3 hS hcl rfl h, fun h => Xt 4 hS hcl rfl h, Vals.up 2 hvs rfl rfl rfl⟩
        refine Xu (fun S F w385 hS hbef hcl hI => ?_) ?_
        ·
         obtain ⟨k347, B354, hi386, e387, e388, e389, e390, c_old_R, c_3, c_4, hvs⟩ := hI
         have hb391 := Xf hb246 hi386
         have ev392 := Vals.at 2 hvs rfl (Xr 2 hbef rfl)
         refine Xh (vs := [.pointer (some ⟨R, 0, none⟩), .int .i64 20]) Qb (Xb ev392 (Xb rfl Xg)) rfl (Yn p1 20 (by omega) _ R bs _ _ _ (c_old_R hS) (by omega) (SlLt.low1 hs hb391 hlo) (by first | exact hb | exact fun b h => hb b (List.mem_of_mem_take h)) (by first | omega | (rw [List.length_take]; omega))) ?_
         rintro _ w398 ⟨k393, rfl, hk394, hk395, kR396, hg397⟩
         have hb399 := Xf hb391 hg397
         exact wpo_nil ⟨k393, B354, (Xf hi386 hg397), e387, e388, e389, e390, fun h => Q7 h, fun _ => ⟨rfl, hk394, hk395, kR396⟩, fun h => Xt 4 hS hcl rfl h, Vals.keep hvs rfl⟩
        refine Xu (fun S F w400 hS hbef hcl hI => ?_) ?_
        ·
         obtain ⟨k347, B354, hi401, e402, e403, e404, e405, c_old_R, c_3, c_4, hvs⟩ := hI
         have hb406 := Xf hb246 hi401
         have ev407 := Vals.at 2 hvs rfl (Xr 2 hbef rfl)
         obtain ⟨e408, hk348, hk349, ks3_R⟩ := c_3 (Xr 3 hbef rfl)
         refine wpo_buildSlice (ps := [(0, .int .i64 k347)]) (e := 3) (cs := (([k347] : List Int).flatMap icell).toArray) (Xm e408 Xw) (fun _ => by kernel_rfl) rfl ?_
         intro B409 w410 hN411
         have hlB409 := X1 hN411 hb406
         have k412 := (k252.gn hi401)
         have lt_B101_B409 := Xo hN411 (k412).lt
         have k413 := (k253.gn hi401)
         have lt_B124_B409 := Xo hN411 (k413).lt
         have k414 := (k254.gn hi401)
         have lt_B133_B409 := Xo hN411 (k414).lt
         have k415 := (hOwn.gn hi401)
         have lt_Bq_B409 := Xo hN411 (k415).lt
         have lt_R_B409 := Xo hN411 (ks3_R).lt
         have hb416 := low0 hb406 hN411.grw
         exact wpo_nil ⟨k347, B409, (low0 hi401 hN411.grw), e402, e403, e404, e405, fun hn => Q7 ((Xr 3 hbef rfl).symm.trans hn), fun h => let ⟨y417, y418, y419, y420⟩ := c_3 h; ⟨y417, y418, y419, (y420).grown0 hN411.grw⟩, fun _ => ⟨rfl, hlB409, hN411.blk, lt_B101_B409, lt_B124_B409, lt_B133_B409, (by omega), lt_Bq_B409, (Nat.le_trans hi401.size hN411.ge)⟩, Vals.keep hvs rfl⟩
        exact Kj
       ·
        intro S F w421 hall hI
        obtain ⟨k347, B354, hi422, e423, e424, e425, e426, c_old_R, c_3, c_4, hvs⟩ := hI
        have hb427 := Xf hb246 hi422
        have ev428 := Vals.at 0 hvs rfl (hall 0 (by decide))
        have ev429 := Vals.at 1 hvs rfl (hall 1 (by decide))
        have ev430 := Vals.at 2 hvs rfl (hall 2 (by decide))
        obtain ⟨e431, hk348, hk349, ks3_R⟩ := c_3 (hall 3 (by decide))
        obtain ⟨e432, hlB354, kb_B354, lt_B101_B354, lt_B124_B354, lt_B133_B354, lt_R_B354, lt_Bq_B354, hk_B354⟩ := c_4 (hall 4 (by decide))
        have k433 := (hOwn.gn hi422)
        have k434 := (k252.gn hi422)
        have k435 := (k253.gn hi422)
        have k436 := (k254.gn hi422)
        refine wpo_append (g := icell) (ys := ys) (zs := ([k347] : List Int)) Pm rfl Yb (by omega) V5 ev429 e432 k433 (Je Yb kb_B354) (by simp only [List.length_cons, List.length_nil]; omega) (by omega) rfl ?_
        intro B437 cap438 w439 hO440 hg441 hor442
        have hlB437 : w.heap.size ≤ B437 := by rcases hor442 with h | h; (rw [h]; exact hlBq); exact Nat.le_trans hb427.size h
        have ne_B101_B437 : B101 ≠ B437 := by have h := (k434).lt; omega
        have ne_B124_B437 : B124 ≠ B437 := by have h := (k435).lt; omega
        have ne_B133_B437 : B133 ≠ B437 := by have h := (k436).lt; omega
        have ne_R_B437 : R ≠ B437 := by have h := (ks3_R).lt; omega
        have ne_B354_B437 : B354 ≠ B437 := by have h := (kb_B354).lt; omega
        have hb443 := low1 hb427 hg441 (by omega)
        refine wpo_fieldAddr (o' := 6) Qk e425 rfl rfl ?_
        have k444 := (k436.gn hg441)
        refine wpo_store1 (v := .slice (some ⟨B437, 0, none⟩) ((ys ++ ([k347] : List Int)).length) cap438) (cs' := #[.int .i64 k, .int .i64 l106.s, .int .i64 l106.v, .int .i64 0, .int .i64 0, .slice (some ⟨B124, 0, none⟩) 4 cap125, .slice (some ⟨B437, 0, none⟩) ((ys ++ ([k347] : List Int)).length) cap438, .int .i64 to]) Jo rfl rfl rfl k444 (Nat.le_of_ble_eq_true rfl) rfl ?_
        intro w445 hS446
        have hb447 := low1 hb443 hS446.grw (by omega)
        refine wpo_nil ?_
        refine Yy ?_
        refine Xn ?_
        refine Xl ?_
        refine wpo_move (v := .int .i64 n) e426 rfl ?_
        refine wpo_sub (c := n - 1) rfl rfl (by omega) (by omega) (by omega) rfl ?_
        refine wpo_assign (v := .int .i64 (n - 1)) rfl rfl ?_
        refine wpo_nil ?_
        refine Xn ?_
        have k448 := (hO440.gn hS446.grw)
        have k449 := ((k434.gn hg441).gn hS446.grw)
        have k450 := ((k435.gn hg441).gn hS446.grw)
        have k451 := ((ks3_R.gn hg441).gn hS446.grw)
        exact ⟨(n - 1).toNat, by omega, (n - 1), (p1 + 1), B437, cap438, (ys ++ ([k347] : List Int)), rfl, (by omega), (by omega), (by simp only [List.length_append, List.length_cons, List.length_nil]; omega), k448, hlB437, (by omega), (by omega), (by omega), (by omega), rfl, e423, e424, e425, hb447, k449, k450, hS446.blk, k451⟩
      ·
       have h452 := of_decide_eq_false h256
       refine Yj ?_
       refine Yt ?_
       refine Yt ?_
       refine Jf ?_
       refine Yy ?_
       refine Xn ?_
       refine Xa ?_
       refine wpo_loadn (vs := [.int .i64 k, .int .i64 l106.s, .int .i64 l106.v, .int .i64 0, .int .i64 0, .slice (some ⟨B124, 0, none⟩) 4 cap125, .slice (some ⟨Bq, 0, none⟩) ys.length cq, .int .i64 to]) Xx e251 rfl (k254.rangeL 0 8 rfl) rfl ?_
       refine wpo_storen (vs := [.int .i64 k, .int .i64 l106.s, .int .i64 l106.v, .int .i64 0, .int .i64 0, .slice (some ⟨B124, 0, none⟩) 4 cap125, .slice (some ⟨Bq, 0, none⟩) ys.length cq, .int .i64 to]) (cs' := #[.int .i64 k, .int .i64 l106.s, .int .i64 l106.v, .int .i64 0, .int .i64 0, .slice (some ⟨B124, 0, none⟩) 4 cap125, .slice (some ⟨Bq, 0, none⟩) ys.length cq, .int .i64 to]) Xx e250 rfl rfl (by simp [Value.oneCell']) k252 (Nat.le_of_ble_eq_true rfl) rfl ?_
       intro w453 hS454
       have hb455 := low1 hb246 hS454.grw (by omega)
       refine wpo_nil ?_
       refine Xj ?_
       have k456 := (hOwn.gn hS454.grw)
       have k457 := (k253.gn hS454.grw)
       have k458 := (k255.gn hS454.grw)
       refine ⟨.agg #[.int .i64 k, .int .i64 l106.s, .int .i64 l106.v, .int .i64 0, .int .i64 0, .slice (some ⟨B124, 0, none⟩) 4 cap125, .slice (some ⟨Bq, 0, none⟩) ys.length cq, .int .i64 to], resC rfl (resCell_mk (vs := [.int .i64 k, .int .i64 l106.s, .int .i64 l106.v, .int .i64 0, .int .i64 0, .slice (some ⟨B124, 0, none⟩) 4 cap125, .slice (some ⟨Bq, 0, none⟩) ys.length cq, .int .i64 to]) Xx e250 rfl (hS454.blk.rangeL 0 8 rfl)), ⟨⟨k, l106, 0, 0, zeros4, ys, to⟩, some ⟨B124, 0, none⟩, cap125, some ⟨Bq, 0, none⟩, cq⟩, p1, rfl, ⟨OwnN.of k456 hlBq, ⟨zeros4, OwnN.of k457 hlB124, rfl, ?_⟩, ?_, ?_, ⟨show (0 : Int) ≤ 0 by omega, show 0 ≤ (1 : Int) by omega⟩⟩, by omega, by omega, k458, hb455⟩
       ·
        intro x hx; first | (simp [zeros4] at hx; subst hx; exact ⟨by decide, by decide, by decide, by decide⟩) | simp at hx
       ·
        first | exact Nat.le_of_ble_eq_true rfl | omega | (simp only [List.length_nil]; omega)
       ·
        exact Nat.le_of_ble_eq_true rfl
     ·
      have h459 := of_decide_eq_false h230
      refine Xa ?_
      refine wpo_eql (q := decide (k = 3)) rfl rfl rfl rfl ?_
      refine wpo_assign (v := .bool (decide (k = 3))) rfl rfl ?_
      refine wpo_nil ?_
      refine Xq rfl (fun h460 => ?_) (fun h460 => ?_)
      ·
       have h461 := of_decide_eq_true h460
       refine Xl ?_
       refine wpo_move (v := .pointer (some ⟨R, 0, none⟩)) rfl rfl ?_
       have k462 := ((k136.grown0 hN135.grw).gn hS140.grw)
       refine Xh (vs := [.pointer (some ⟨R, 0, none⟩), .int .i64 24]) Qb (Xb rfl (Xb rfl Xg)) rfl (Yn p107 24 (by omega) _ R bs _ _ _ k462 (by omega) (SlLt.low1 hs hb141 hlo) (by first | exact hb | exact fun b h => hb b (List.mem_of_mem_take h)) (by first | omega | (rw [List.length_take]; omega))) ?_
       rintro _ w468 ⟨k463, rfl, hk464, hk465, kR466, hg467⟩
       have hb469 := Xf hb141 hg467
       refine wpo_sub (c := k463 - 4) rfl rfl (by omega) (by omega) (by omega) rfl ?_
       refine wpo_fieldAddr (o' := 4) Q4 rfl rfl rfl ?_
       have k470 := (hS140.blk.gn hg467)
       refine wpo_store1 (v := .int .i64 (k463 - 4)) (cs' := #[.int .i64 k, .int .i64 l106.s, .int .i64 l106.v, .int .i64 0, .int .i64 (k463 - 4), .slice (some ⟨B124, 0, none⟩) 4 cap125, .slice (some ⟨B128, 0, none⟩) 0 cap129, .int .i64 to]) X0 rfl rfl rfl k470 (Nat.le_of_ble_eq_true rfl) rfl ?_
       intro w471 hS472
       have hb473 := low1 hb469 hS472.grw (by omega)
       refine wpo_nil ?_
       refine Yy ?_
       refine Xn ?_
       refine Xa ?_
       refine wpo_loadn (vs := [.int .i64 k, .int .i64 l106.s, .int .i64 l106.v, .int .i64 0, .int .i64 (k463 - 4), .slice (some ⟨B124, 0, none⟩) 4 cap125, .slice (some ⟨B128, 0, none⟩) 0 cap129, .int .i64 to]) Xx rfl rfl (hS472.blk.rangeL 0 8 rfl) rfl ?_
       have k474 := ((((k137.grown0 hN135.grw).gn hS140.grw).gn hg467).gn hS472.grw)
       refine wpo_storen (vs := [.int .i64 k, .int .i64 l106.s, .int .i64 l106.v, .int .i64 0, .int .i64 (k463 - 4), .slice (some ⟨B124, 0, none⟩) 4 cap125, .slice (some ⟨B128, 0, none⟩) 0 cap129, .int .i64 to]) (cs' := #[.int .i64 k, .int .i64 l106.s, .int .i64 l106.v, .int .i64 0, .int .i64 (k463 - 4), .slice (some ⟨B124, 0, none⟩) 4 cap125, .slice (some ⟨B128, 0, none⟩) 0 cap129, .int .i64 to]) Xx rfl rfl rfl (by simp [Value.oneCell']) k474 (Nat.le_of_ble_eq_true rfl) rfl ?_
       intro w475 hS476
       have hb477 := low1 hb473 hS476.grw (by omega)
       refine wpo_nil ?_
       refine Xj ?_
       have k478 := (((((hO131.grown0 hN135.grw).gn hS140.grw).gn hg467).gn hS472.grw).gn hS476.grw)
       have k479 := (((((hO127.grown0 hN135.grw).gn hS140.grw).gn hg467).gn hS472.grw).gn hS476.grw)
       have k480 := ((kR466.gn hS472.grw).gn hS476.grw)
       refine ⟨.agg #[.int .i64 k, .int .i64 l106.s, .int .i64 l106.v, .int .i64 0, .int .i64 (k463 - 4), .slice (some ⟨B124, 0, none⟩) 4 cap125, .slice (some ⟨B128, 0, none⟩) 0 cap129, .int .i64 to], resC rfl (resCell_mk (vs := [.int .i64 k, .int .i64 l106.s, .int .i64 l106.v, .int .i64 0, .int .i64 (k463 - 4), .slice (some ⟨B124, 0, none⟩) 4 cap125, .slice (some ⟨B128, 0, none⟩) 0 cap129, .int .i64 to]) Xx rfl rfl (hS476.blk.rangeL 0 8 rfl)), ⟨⟨k, l106, 0, k463 - 4, zeros4, ([] : List Int), to⟩, some ⟨B124, 0, none⟩, cap125, some ⟨B128, 0, none⟩, cap129⟩, (p107 + 1), rfl, ⟨OwnN.of k478 hlB128, ⟨zeros4, OwnN.of k479 hlB124, rfl, ?_⟩, ?_, ?_, ⟨show (0 : Int) ≤ 0 by omega, show 0 ≤ (1 : Int) by omega⟩⟩, by omega, by omega, k480, hb477⟩
       ·
        intro x hx; first | (simp [zeros4] at hx; subst hx; exact ⟨by decide, by decide, by decide, by decide⟩) | simp at hx
       ·
        first | exact Nat.le_of_ble_eq_true rfl | omega | (simp only [List.length_nil]; omega)
       ·
        exact Nat.le_of_ble_eq_true rfl
      ·
       have h481 := of_decide_eq_false h460
       refine Xk ?_
       refine Yy ?_
       refine Xn ?_
       refine Xa ?_
       refine wpo_loadn (vs := [.int .i64 k, .int .i64 l106.s, .int .i64 l106.v, .int .i64 0, .int .i64 0, .slice (some ⟨B124, 0, none⟩) 4 cap125, .slice (some ⟨B128, 0, none⟩) 0 cap129, .int .i64 to]) Xx rfl rfl (hS140.blk.rangeL 0 8 rfl) rfl ?_
       have k482 := ((k137.grown0 hN135.grw).gn hS140.grw)
       refine wpo_storen (vs := [.int .i64 k, .int .i64 l106.s, .int .i64 l106.v, .int .i64 0, .int .i64 0, .slice (some ⟨B124, 0, none⟩) 4 cap125, .slice (some ⟨B128, 0, none⟩) 0 cap129, .int .i64 to]) (cs' := #[.int .i64 k, .int .i64 l106.s, .int .i64 l106.v, .int .i64 0, .int .i64 0, .slice (some ⟨B124, 0, none⟩) 4 cap125, .slice (some ⟨B128, 0, none⟩) 0 cap129, .int .i64 to]) Xx rfl rfl rfl (by simp [Value.oneCell']) k482 (Nat.le_of_ble_eq_true rfl) rfl ?_
       intro w483 hS484
       have hb485 := low1 hb141 hS484.grw (by omega)
       refine wpo_nil ?_
       refine Xj ?_
       have k486 := (((hO131.grown0 hN135.grw).gn hS140.grw).gn hS484.grw)
       have k487 := (((hO127.grown0 hN135.grw).gn hS140.grw).gn hS484.grw)
       have k488 := (((k136.grown0 hN135.grw).gn hS140.grw).gn hS484.grw)
       refine ⟨.agg #[.int .i64 k, .int .i64 l106.s, .int .i64 l106.v, .int .i64 0, .int .i64 0, .slice (some ⟨B124, 0, none⟩) 4 cap125, .slice (some ⟨B128, 0, none⟩) 0 cap129, .int .i64 to], resC rfl (resCell_mk (vs := [.int .i64 k, .int .i64 l106.s, .int .i64 l106.v, .int .i64 0, .int .i64 0, .slice (some ⟨B124, 0, none⟩) 4 cap125, .slice (some ⟨B128, 0, none⟩) 0 cap129, .int .i64 to]) Xx rfl rfl (hS484.blk.rangeL 0 8 rfl)), ⟨⟨k, l106, 0, 0, zeros4, ([] : List Int), to⟩, some ⟨B124, 0, none⟩, cap125, some ⟨B128, 0, none⟩, cap129⟩, p107, rfl, ⟨OwnN.of k486 hlB128, ⟨zeros4, OwnN.of k487 hlB124, rfl, ?_⟩, ?_, ?_, ⟨show (0 : Int) ≤ 0 by omega, show 0 ≤ (1 : Int) by omega⟩⟩, by omega, by omega, k488, hb485⟩
       ·
        intro x hx; first | (simp [zeros4] at hx; subst hx; exact ⟨by decide, by decide, by decide, by decide⟩) | simp at hx
       ·
        first | exact Nat.le_of_ble_eq_true rfl | omega | (simp only [List.length_nil]; omega)
       ·
        exact Nat.le_of_ble_eq_true rfl
  ·
   have k489 := (hN103.blk.gn hg115)
   have h490 : thingOk (⟨k, l106, 0, 0, zeros4, [], to⟩ : Th) = false := (Vd h118).symm.trans h119
   refine Xh (vs := [.int .i64 k, .agg #[.int .i64 l106.s, .int .i64 l106.v], .int .i64 to]) Gk (Xb rfl (Xb rfl (Xb rfl Xg))) rfl (Wu k to l106 h118 h119 _) ?_
   rintro _ w491 ⟨rfl, hg492⟩
   have hb493 := low0 hb117 hg492
   refine wpo_move (v := .tuple #[.agg #[.int .i64 0, .int .i64 0, .int .i64 0, .int .i64 0, .int .i64 0, .slice none 0 0, .slice none 0 0, .int .i64 0], .bool false]) rfl rfl ?_
   refine wpo_extract (v := .agg #[.int .i64 0, .int .i64 0, .int .i64 0, .int .i64 0, .int .i64 0, .slice none 0 0, .slice none 0 0, .int .i64 0]) rfl rfl rfl ?_
   refine wpo_extract (v := .bool false) rfl rfl rfl ?_
   refine wpo_alloc (cs := #[.int .i64 0, .int .i64 0, .int .i64 0, .int .i64 0, .int .i64 0, .slice none 0 0, .slice none 0 0, .int .i64 0]) Q6 rfl rfl ?_
   intro B494 w495 hN496
   have hlB494 := X1 hN496 hb493
   have k497 := (kR114.grown0 hg492)
   have lt_R_B494 := Xo hN496 (k497).lt
   have k498 := (k489.grown0 hg492)
   have lt_B101_B494 := Xo hN496 (k498).lt
   have hb499 := low0 hb493 hN496.grw
   refine wpo_storen (vs := [.int .i64 0, .int .i64 0, .int .i64 0, .int .i64 0, .int .i64 0, .slice none 0 0, .slice none 0 0, .int .i64 0]) (cs' := #[.int .i64 0, .int .i64 0, .int .i64 0, .int .i64 0, .int .i64 0, .slice none 0 0, .slice none 0 0, .int .i64 0]) Xx rfl rfl rfl (by simp [Value.oneCell']) hN496.blk (Nat.le_of_ble_eq_true rfl) rfl ?_
   intro w500 hS501
   have hb502 := low1 hb499 hS501.grw (by omega)
   refine wpo_assign (v := .bool false) rfl rfl ?_
   refine wpo_nil ?_
   refine Xi ?_
   refine Xa ?_
   refine wpo_fieldAddr (o' := 0) X9 rfl rfl rfl ?_
   refine wpo_load1 (v := .int .i64 0) X0 rfl (hS501.blk.cell rfl) rfl ?_
   refine wpo_eql (q := true) rfl rfl (by decide) rfl ?_
   refine wpo_nil ?_
   refine X8 rfl rfl ?_
   refine Xl ?_
   refine wpo_build (ps := []) (v := .agg #[.int .i64 0, .int .i64 0]) Xw (fun _ => by kernel_rfl) rfl ?_
   have k503 := ((k497.grown0 hN496.grw).gn hS501.grw)
   have k504 := ((k498.grown0 hN496.grw).gn hS501.grw)
   have h505 : thingOk (⟨1, ⟨0, 0⟩, 0, 0, [], [], 0⟩ : Th) = true := (Jv (by decide)).symm.trans (by decide)
   refine Xh (vs := [.int .i64 1, .agg #[.int .i64 0, .int .i64 0], .int .i64 0]) Gk (Xb rfl (Xb rfl (Xb rfl Xg))) rfl (Jp 1 0 ⟨0, 0⟩ (by decide) (by decide) _) ?_
   rintro _ w506 ⟨B508, cap509, B512, cap513, rfl, hge510, hO511, hge514, hO515, ne_B508_B512, hg507⟩
   have hb516 := low0 hb502 hg507
   have hlB508 := Nat.le_trans hb502.size hge510
   have lt_R_B508 := Nat.lt_of_lt_of_le (k503).lt hge510
   have lt_B101_B508 := Nat.lt_of_lt_of_le (k504).lt hge510
   have lt_B494_B508 := Nat.lt_of_lt_of_le (hS501.blk).lt hge510
   have hlB512 := Nat.le_trans hb502.size hge514
   have lt_R_B512 := Nat.lt_of_lt_of_le (k503).lt hge514
   have lt_B101_B512 := Nat.lt_of_lt_of_le (k504).lt hge514
   have lt_B494_B512 := Nat.lt_of_lt_of_le (hS501.blk).lt hge514
   refine wpo_move (v := .tuple #[.agg #[.int .i64 1, .int .i64 0, .int .i64 0, .int .i64 0, .int .i64 0, .slice (some ⟨B508, 0, none⟩) 0 cap509, .slice (some ⟨B512, 0, none⟩) 0 cap513, .int .i64 0], .bool true]) rfl rfl ?_
   refine wpo_extract (v := .agg #[.int .i64 1, .int .i64 0, .int .i64 0, .int .i64 0, .int .i64 0, .slice (some ⟨B508, 0, none⟩) 0 cap509, .slice (some ⟨B512, 0, none⟩) 0 cap513, .int .i64 0]) rfl rfl rfl ?_
   refine wpo_extract (v := .bool true) rfl rfl rfl ?_
   have k517 := (hS501.blk.grown0 hg507)
   refine wpo_storen (vs := [.int .i64 1, .int .i64 0, .int .i64 0, .int .i64 0, .int .i64 0, .slice (some ⟨B508, 0, none⟩) 0 cap509, .slice (some ⟨B512, 0, none⟩) 0 cap513, .int .i64 0]) (cs' := #[.int .i64 1, .int .i64 0, .int .i64 0, .int .i64 0, .int .i64 0, .slice (some ⟨B508, 0, none⟩) 0 cap509, .slice (some ⟨B512, 0, none⟩) 0 cap513, .int .i64 0]) Xx rfl rfl rfl (by simp [Value.oneCell']) k517 (Nat.le_of_ble_eq_true rfl) rfl ?_
   intro w518 hS519
   have hb520 := low1 hb516 hS519.grw (by omega)
   refine wpo_nil ?_
   refine Xn ?_
   refine Xi ?_
   refine Xa ?_
   refine wpo_fieldAddr (o' := 0) X9 rfl rfl rfl ?_
   refine wpo_load1 (v := .int .i64 1) X0 rfl (hS519.blk.cell rfl) rfl ?_
   refine wpo_nil ?_
   refine Xv ?_
   refine Xa ?_
   refine wpo_eql (q := true) rfl rfl (by decide) rfl ?_
   refine wpo_assign (v := .bool true) rfl rfl ?_
   refine wpo_nil ?_
   refine X8 rfl rfl ?_
   refine Xa ?_
   refine wpo_move (v := .pointer (some ⟨R, 0, none⟩)) rfl rfl ?_
   have k521 := ((k503.grown0 hg507).gn hS519.grw)
   refine Xh (vs := [.pointer (some ⟨R, 0, none⟩), .int .i64 20]) Qb (Xb rfl (Xb rfl Xg)) rfl (Yn p107 20 (by omega) _ R bs _ _ _ k521 (by omega) (SlLt.low1 hs hb520 hlo) (by first | exact hb | exact fun b h => hb b (List.mem_of_mem_take h)) (by first | omega | (rw [List.length_take]; omega))) ?_
   rintro _ w527 ⟨k522, rfl, hk523, hk524, kR525, hg526⟩
   have hb528 := Xf hb520 hg526
   refine wpo_fieldAddr (o' := 4) Q4 rfl rfl rfl ?_
   have k529 := (hS519.blk.gn hg526)
   refine wpo_store1 (v := .int .i64 k522) (cs' := #[.int .i64 1, .int .i64 0, .int .i64 0, .int .i64 0, .int .i64 k522, .slice (some ⟨B508, 0, none⟩) 0 cap509, .slice (some ⟨B512, 0, none⟩) 0 cap513, .int .i64 0]) X0 rfl rfl rfl k529 (Nat.le_of_ble_eq_true rfl) rfl ?_
   intro w530 hS531
   have hb532 := low1 hb528 hS531.grw (by omega)
   refine wpo_nil ?_
   refine Xl ?_
   refine wpo_move (v := .pointer (some ⟨R, 0, none⟩)) rfl rfl ?_
   have k533 := (kR525.gn hS531.grw)
   refine Xh (vs := [.pointer (some ⟨R, 0, none⟩), .int .i64 3]) Qb (Xb rfl (Xb rfl Xg)) rfl (Yn (p107 + 1) 3 (by omega) _ R bs _ _ _ k533 (by omega) (SlLt.low1 hs hb532 hlo) (by first | exact hb | exact fun b h => hb b (List.mem_of_mem_take h)) (by first | omega | (rw [List.length_take]; omega))) ?_
   rintro _ w539 ⟨k534, rfl, hk535, hk536, kR537, hg538⟩
   have hb540 := Xf hb532 hg538
   refine wpo_quo (c := k534 / 2) rfl rfl (by omega) (by omega) (by omega) rfl rfl ?_
   refine wpo_fieldAddr (o' := 3) Qw rfl rfl rfl ?_
   have k541 := (hS531.blk.gn hg538)
   refine wpo_store1 (v := .int .i64 (k534 / 2)) (cs' := #[.int .i64 1, .int .i64 0, .int .i64 0, .int .i64 (k534 / 2), .int .i64 k522, .slice (some ⟨B508, 0, none⟩) 0 cap509, .slice (some ⟨B512, 0, none⟩) 0 cap513, .int .i64 0]) X0 rfl rfl rfl k541 (Nat.le_of_ble_eq_true rfl) rfl ?_
   intro w542 hS543
   have hb544 := low1 hb540 hS543.grw (by omega)
   refine wpo_nil ?_
   refine Yy ?_
   refine Xn ?_
   refine Xa ?_
   refine wpo_loadn (vs := [.int .i64 1, .int .i64 0, .int .i64 0, .int .i64 (k534 / 2), .int .i64 k522, .slice (some ⟨B508, 0, none⟩) 0 cap509, .slice (some ⟨B512, 0, none⟩) 0 cap513, .int .i64 0]) Xx rfl rfl (hS543.blk.rangeL 0 8 rfl) rfl ?_
   have k545 := ((((((k504.grown0 hg507).gn hS519.grw).gn hg526).gn hS531.grw).gn hg538).gn hS543.grw)
   refine wpo_storen (vs := [.int .i64 1, .int .i64 0, .int .i64 0, .int .i64 (k534 / 2), .int .i64 k522, .slice (some ⟨B508, 0, none⟩) 0 cap509, .slice (some ⟨B512, 0, none⟩) 0 cap513, .int .i64 0]) (cs' := #[.int .i64 1, .int .i64 0, .int .i64 0, .int .i64 (k534 / 2), .int .i64 k522, .slice (some ⟨B508, 0, none⟩) 0 cap509, .slice (some ⟨B512, 0, none⟩) 0 cap513, .int .i64 0]) Xx rfl rfl rfl (by simp [Value.oneCell']) k545 (Nat.le_of_ble_eq_true rfl) rfl ?_
   intro w546 hS547
   have hb548 := low1 hb544 hS547.grw (by omega)
   refine wpo_nil ?_
   refine Xj ?_
   have k549 := ((((((hO515.gn hS519.grw).gn hg526).gn hS531.grw).gn hg538).gn hS543.grw).gn hS547.grw)
   have k550 := ((((((hO511.gn hS519.grw).gn hg526).gn hS531.grw).gn hg538).gn hS543.grw).gn hS547.grw)
   have k551 := ((kR537.gn hS543.grw).gn hS547.grw)
   refine ⟨.agg #[.int .i64 1, .int .i64 0, .int .i64 0, .int .i64 (k534 / 2), .int .i64 k522, .slice (some ⟨B508, 0, none⟩) 0 cap509, .slice (some ⟨B512, 0, none⟩) 0 cap513, .int .i64 0], resC rfl (resCell_mk (vs := [.int .i64 1, .int .i64 0, .int .i64 0, .int .i64 (k534 / 2), .int .i64 k522, .slice (some ⟨B508, 0, none⟩) 0 cap509, .slice (some ⟨B512, 0, none⟩) 0 cap513, .int .i64 0]) Xx rfl rfl (hS547.blk.rangeL 0 8 rfl)), ⟨⟨1, ⟨0, 0⟩, k534 / 2, k522, ([] : List Rt), ([] : List Int), 0⟩, some ⟨B508, 0, none⟩, cap509, some ⟨B512, 0, none⟩, cap513⟩, (p107 + 1 + 1), rfl, ⟨OwnN.of k549 hlB512, ⟨([] : List Rt), OwnN.of k550 hlB508, rfl, ?_⟩, ?_, ?_, ⟨show (0 : Int) ≤ k534 / 2 by omega, show k534 / 2 ≤ (1 : Int) by omega⟩⟩, by omega, by omega, k551, hb548⟩
   ·
    intro x hx; first | (simp [zeros4] at hx; subst hx; exact ⟨by decide, by decide, by decide, by decide⟩) | simp at hx
   ·
    first | exact Nat.le_of_ble_eq_true rfl | omega | (simp only [List.length_nil]; omega)
   ·
    exact Nat.le_of_ble_eq_true rfl
 ·
  have h552 := J5 h118
  have h553 := of_decide_eq_false h552
  have h554 := J6 h118
  have h555 := of_decide_eq_false h554
  rcases Xy (newOk k l106 to) with h556 | h556
  ·
   have k557 := (hN103.blk.gn hg115)
   have h558 : thingOk (⟨k, l106, 0, 0, [], [], to⟩ : Th) = true := (Jv h118).symm.trans h556
   refine Xh (vs := [.int .i64 k, .agg #[.int .i64 l106.s, .int .i64 l106.v], .int .i64 to]) Gk (Xb rfl (Xb rfl (Xb rfl Xg))) rfl (Jp k to l106 h118 h556 _) ?_
   rintro _ w559 ⟨B561, cap562, B565, cap566, rfl, hge563, hO564, hge567, hO568, ne_B561_B565, hg560⟩
   have hb569 := low0 hb117 hg560
   have hlB561 := Nat.le_trans hb117.size hge563
   have lt_R_B561 := Nat.lt_of_lt_of_le (kR114).lt hge563
   have lt_B101_B561 := Nat.lt_of_lt_of_le (k557).lt hge563
   have hlB565 := Nat.le_trans hb117.size hge567
   have lt_R_B565 := Nat.lt_of_lt_of_le (kR114).lt hge567
   have lt_B101_B565 := Nat.lt_of_lt_of_le (k557).lt hge567
   refine wpo_move (v := .tuple #[.agg #[.int .i64 k, .int .i64 l106.s, .int .i64 l106.v, .int .i64 0, .int .i64 0, .slice (some ⟨B561, 0, none⟩) 0 cap562, .slice (some ⟨B565, 0, none⟩) 0 cap566, .int .i64 to], .bool true]) rfl rfl ?_
   refine wpo_extract (v := .agg #[.int .i64 k, .int .i64 l106.s, .int .i64 l106.v, .int .i64 0, .int .i64 0, .slice (some ⟨B561, 0, none⟩) 0 cap562, .slice (some ⟨B565, 0, none⟩) 0 cap566, .int .i64 to]) rfl rfl rfl ?_
   refine wpo_extract (v := .bool true) rfl rfl rfl ?_
   refine wpo_alloc (cs := #[.int .i64 0, .int .i64 0, .int .i64 0, .int .i64 0, .int .i64 0, .slice none 0 0, .slice none 0 0, .int .i64 0]) Q6 rfl rfl ?_
   intro B570 w571 hN572
   have hlB570 := X1 hN572 hb569
   have k573 := (kR114.grown0 hg560)
   have lt_R_B570 := Xo hN572 (k573).lt
   have k574 := (k557.grown0 hg560)
   have lt_B101_B570 := Xo hN572 (k574).lt
   have lt_B565_B570 := Xo hN572 (hO568).lt
   have lt_B561_B570 := Xo hN572 (hO564).lt
   have hb575 := low0 hb569 hN572.grw
   refine wpo_storen (vs := [.int .i64 k, .int .i64 l106.s, .int .i64 l106.v, .int .i64 0, .int .i64 0, .slice (some ⟨B561, 0, none⟩) 0 cap562, .slice (some ⟨B565, 0, none⟩) 0 cap566, .int .i64 to]) (cs' := #[.int .i64 k, .int .i64 l106.s, .int .i64 l106.v, .int .i64 0, .int .i64 0, .slice (some ⟨B561, 0, none⟩) 0 cap562, .slice (some ⟨B565, 0, none⟩) 0 cap566, .int .i64 to]) Xx rfl rfl rfl (by simp [Value.oneCell']) hN572.blk (Nat.le_of_ble_eq_true rfl) rfl ?_
   intro w576 hS577
   have hb578 := low1 hb575 hS577.grw (by omega)
   refine wpo_assign (v := .bool true) rfl rfl ?_
   refine wpo_nil ?_
   refine Xi ?_
   refine Xa ?_
   refine wpo_fieldAddr (o' := 0) X9 rfl rfl rfl ?_
   refine wpo_load1 (v := .int .i64 k) X0 rfl (hS577.blk.cell rfl) rfl ?_
   refine wpo_eql (q := decide (k = 0)) rfl rfl rfl rfl ?_
   refine wpo_nil ?_
   refine Xq rfl (fun h579 => ?_) (fun h579 => ?_)
   ·
    have h580 := of_decide_eq_true h579
    refine Xl ?_
    refine wpo_build (ps := []) (v := .agg #[.int .i64 0, .int .i64 0]) Xw (fun _ => by kernel_rfl) rfl ?_
    have k581 := ((k573.grown0 hN572.grw).gn hS577.grw)
    have k582 := ((k574.grown0 hN572.grw).gn hS577.grw)
    have k583 := ((hO568.grown0 hN572.grw).gn hS577.grw)
    have k584 := ((hO564.grown0 hN572.grw).gn hS577.grw)
    have h585 : thingOk (⟨1, ⟨0, 0⟩, 0, 0, [], [], 0⟩ : Th) = true := (Jv (by decide)).symm.trans (by decide)
    refine Xh (vs := [.int .i64 1, .agg #[.int .i64 0, .int .i64 0], .int .i64 0]) Gk (Xb rfl (Xb rfl (Xb rfl Xg))) rfl (Jp 1 0 ⟨0, 0⟩ (by decide) (by decide) _) ?_
    rintro _ w586 ⟨B588, cap589, B592, cap593, rfl, hge590, hO591, hge594, hO595, ne_B588_B592, hg587⟩
    have hb596 := low0 hb578 hg587
    have hlB588 := Nat.le_trans hb578.size hge590
    have lt_R_B588 := Nat.lt_of_lt_of_le (k581).lt hge590
    have lt_B101_B588 := Nat.lt_of_lt_of_le (k582).lt hge590
    have lt_B565_B588 := Nat.lt_of_lt_of_le (k583).lt hge590
    have lt_B561_B588 := Nat.lt_of_lt_of_le (k584).lt hge590
    have lt_B570_B588 := Nat.lt_of_lt_of_le (hS577.blk).lt hge590
    have hlB592 := Nat.le_trans hb578.size hge594
    have lt_R_B592 := Nat.lt_of_lt_of_le (k581).lt hge594
    have lt_B101_B592 := Nat.lt_of_lt_of_le (k582).lt hge594
    have lt_B565_B592 := Nat.lt_of_lt_of_le (k583).lt hge594
    have lt_B561_B592 := Nat.lt_of_lt_of_le (k584).lt hge594
    have lt_B570_B592 := Nat.lt_of_lt_of_le (hS577.blk).lt hge594
    refine wpo_move (v := .tuple #[.agg #[.int .i64 1, .int .i64 0, .int .i64 0, .int .i64 0, .int .i64 0, .slice (some ⟨B588, 0, none⟩) 0 cap589, .slice (some ⟨B592, 0, none⟩) 0 cap593, .int .i64 0], .bool true]) rfl rfl ?_
    refine wpo_extract (v := .agg #[.int .i64 1, .int .i64 0, .int .i64 0, .int .i64 0, .int .i64 0, .slice (some ⟨B588, 0, none⟩) 0 cap589, .slice (some ⟨B592, 0, none⟩) 0 cap593, .int .i64 0]) rfl rfl rfl ?_
    refine wpo_extract (v := .bool true) rfl rfl rfl ?_
    have k597 := (hS577.blk.grown0 hg587)
    refine wpo_storen (vs := [.int .i64 1, .int .i64 0, .int .i64 0, .int .i64 0, .int .i64 0, .slice (some ⟨B588, 0, none⟩) 0 cap589, .slice (some ⟨B592, 0, none⟩) 0 cap593, .int .i64 0]) (cs' := #[.int .i64 1, .int .i64 0, .int .i64 0, .int .i64 0, .int .i64 0, .slice (some ⟨B588, 0, none⟩) 0 cap589, .slice (some ⟨B592, 0, none⟩) 0 cap593, .int .i64 0]) Xx rfl rfl rfl (by simp [Value.oneCell']) k597 (Nat.le_of_ble_eq_true rfl) rfl ?_
    intro w598 hS599
    have hb600 := low1 hb596 hS599.grw (by omega)
    refine wpo_nil ?_
    refine Xn ?_
    refine Xi ?_
    refine Xa ?_
    refine wpo_fieldAddr (o' := 0) X9 rfl rfl rfl ?_
    refine wpo_load1 (v := .int .i64 1) X0 rfl (hS599.blk.cell rfl) rfl ?_
    refine wpo_nil ?_
    refine Xv ?_
    refine Xa ?_
    refine wpo_eql (q := true) rfl rfl (by decide) rfl ?_
    refine wpo_assign (v := .bool true) rfl rfl ?_
    refine wpo_nil ?_
    refine X8 rfl rfl ?_
    refine Xa ?_
    refine wpo_move (v := .pointer (some ⟨R, 0, none⟩)) rfl rfl ?_
    have k601 := ((k581.grown0 hg587).gn hS599.grw)
    refine Xh (vs := [.pointer (some ⟨R, 0, none⟩), .int .i64 20]) Qb (Xb rfl (Xb rfl Xg)) rfl (Yn p107 20 (by omega) _ R bs _ _ _ k601 (by omega) (SlLt.low1 hs hb600 hlo) (by first | exact hb | exact fun b h => hb b (List.mem_of_mem_take h)) (by first | omega | (rw [List.length_take]; omega))) ?_
    rintro _ w607 ⟨k602, rfl, hk603, hk604, kR605, hg606⟩
    have hb608 := Xf hb600 hg606
    refine wpo_fieldAddr (o' := 4) Q4 rfl rfl rfl ?_
    have k609 := (hS599.blk.gn hg606)
    refine wpo_store1 (v := .int .i64 k602) (cs' := #[.int .i64 1, .int .i64 0, .int .i64 0, .int .i64 0, .int .i64 k602, .slice (some ⟨B588, 0, none⟩) 0 cap589, .slice (some ⟨B592, 0, none⟩) 0 cap593, .int .i64 0]) X0 rfl rfl rfl k609 (Nat.le_of_ble_eq_true rfl) rfl ?_
    intro w610 hS611
    have hb612 := low1 hb608 hS611.grw (by omega)
    refine wpo_nil ?_
    refine Xl ?_
    refine wpo_move (v := .pointer (some ⟨R, 0, none⟩)) rfl rfl ?_
    have k613 := (kR605.gn hS611.grw)
    refine Xh (vs := [.pointer (some ⟨R, 0, none⟩), .int .i64 3]) Qb (Xb rfl (Xb rfl Xg)) rfl (Yn (p107 + 1) 3 (by omega) _ R bs _ _ _ k613 (by omega) (SlLt.low1 hs hb612 hlo) (by first | exact hb | exact fun b h => hb b (List.mem_of_mem_take h)) (by first | omega | (rw [List.length_take]; omega))) ?_
    rintro _ w619 ⟨k614, rfl, hk615, hk616, kR617, hg618⟩
    have hb620 := Xf hb612 hg618
    refine wpo_quo (c := k614 / 2) rfl rfl (by omega) (by omega) (by omega) rfl rfl ?_
    refine wpo_fieldAddr (o' := 3) Qw rfl rfl rfl ?_
    have k621 := (hS611.blk.gn hg618)
    refine wpo_store1 (v := .int .i64 (k614 / 2)) (cs' := #[.int .i64 1, .int .i64 0, .int .i64 0, .int .i64 (k614 / 2), .int .i64 k602, .slice (some ⟨B588, 0, none⟩) 0 cap589, .slice (some ⟨B592, 0, none⟩) 0 cap593, .int .i64 0]) X0 rfl rfl rfl k621 (Nat.le_of_ble_eq_true rfl) rfl ?_
    intro w622 hS623
    have hb624 := low1 hb620 hS623.grw (by omega)
    refine wpo_nil ?_
    refine Yy ?_
    refine Xn ?_
    refine Xa ?_
    refine wpo_loadn (vs := [.int .i64 1, .int .i64 0, .int .i64 0, .int .i64 (k614 / 2), .int .i64 k602, .slice (some ⟨B588, 0, none⟩) 0 cap589, .slice (some ⟨B592, 0, none⟩) 0 cap593, .int .i64 0]) Xx rfl rfl (hS623.blk.rangeL 0 8 rfl) rfl ?_
    have k625 := ((((((k582.grown0 hg587).gn hS599.grw).gn hg606).gn hS611.grw).gn hg618).gn hS623.grw)
    refine wpo_storen (vs := [.int .i64 1, .int .i64 0, .int .i64 0, .int .i64 (k614 / 2), .int .i64 k602, .slice (some ⟨B588, 0, none⟩) 0 cap589, .slice (some ⟨B592, 0, none⟩) 0 cap593, .int .i64 0]) (cs' := #[.int .i64 1, .int .i64 0, .int .i64 0, .int .i64 (k614 / 2), .int .i64 k602, .slice (some ⟨B588, 0, none⟩) 0 cap589, .slice (some ⟨B592, 0, none⟩) 0 cap593, .int .i64 0]) Xx rfl rfl rfl (by simp [Value.oneCell']) k625 (Nat.le_of_ble_eq_true rfl) rfl ?_
    intro w626 hS627
    have hb628 := low1 hb624 hS627.grw (by omega)
    refine wpo_nil ?_
    refine Xj ?_
    have k629 := ((((((hO595.gn hS599.grw).gn hg606).gn hS611.grw).gn hg618).gn hS623.grw).gn hS627.grw)
    have k630 := ((((((hO591.gn hS599.grw).gn hg606).gn hS611.grw).gn hg618).gn hS623.grw).gn hS627.grw)
    have k631 := ((kR617.gn hS623.grw).gn hS627.grw)
    refine ⟨.agg #[.int .i64 1, .int .i64 0, .int .i64 0, .int .i64 (k614 / 2), .int .i64 k602, .slice (some ⟨B588, 0, none⟩) 0 cap589, .slice (some ⟨B592, 0, none⟩) 0 cap593, .int .i64 0], resC rfl (resCell_mk (vs := [.int .i64 1, .int .i64 0, .int .i64 0, .int .i64 (k614 / 2), .int .i64 k602, .slice (some ⟨B588, 0, none⟩) 0 cap589, .slice (some ⟨B592, 0, none⟩) 0 cap593, .int .i64 0]) Xx rfl rfl (hS627.blk.rangeL 0 8 rfl)), ⟨⟨1, ⟨0, 0⟩, k614 / 2, k602, ([] : List Rt), ([] : List Int), 0⟩, some ⟨B588, 0, none⟩, cap589, some ⟨B592, 0, none⟩, cap593⟩, (p107 + 1 + 1), rfl, ⟨OwnN.of k629 hlB592, ⟨([] : List Rt), OwnN.of k630 hlB588, rfl, ?_⟩, ?_, ?_, ⟨show (0 : Int) ≤ k614 / 2 by omega, show k614 / 2 ≤ (1 : Int) by omega⟩⟩, by omega, by omega, k631, hb628⟩
    ·
     intro x hx; first | (simp [zeros4] at hx; subst hx; exact ⟨by decide, by decide, by decide, by decide⟩) | simp at hx
    ·
     first | exact Nat.le_of_ble_eq_true rfl | omega | (simp only [List.length_nil]; omega)
    ·
     exact Nat.le_of_ble_eq_true rfl
   ·
    have h632 := of_decide_eq_false h579
    refine Xk ?_
    refine Xn ?_
    refine Xi ?_
    refine Xa ?_
    refine wpo_fieldAddr (o' := 0) X9 rfl rfl rfl ?_
    refine wpo_load1 (v := .int .i64 k) X0 rfl (hS577.blk.cell rfl) rfl ?_
    refine wpo_nil ?_
    refine Xv ?_
    refine Xa ?_
    refine wpo_eql (q := decide (k = 1)) rfl rfl rfl rfl ?_
    refine wpo_assign (v := .bool (decide (k = 1))) rfl rfl ?_
    refine wpo_nil ?_
    refine Xq rfl (fun h633 => ?_) (fun h633 => ?_)
    ·
     have h634 := of_decide_eq_true h633
     refine Xa ?_
     refine wpo_move (v := .pointer (some ⟨R, 0, none⟩)) rfl rfl ?_
     have k635 := ((k573.grown0 hN572.grw).gn hS577.grw)
     refine Xh (vs := [.pointer (some ⟨R, 0, none⟩), .int .i64 20]) Qb (Xb rfl (Xb rfl Xg)) rfl (Yn p107 20 (by omega) _ R bs _ _ _ k635 (by omega) (SlLt.low1 hs hb578 hlo) (by first | exact hb | exact fun b h => hb b (List.mem_of_mem_take h)) (by first | omega | (rw [List.length_take]; omega))) ?_
     rintro _ w641 ⟨k636, rfl, hk637, hk638, kR639, hg640⟩
     have hb642 := Xf hb578 hg640
     refine wpo_fieldAddr (o' := 4) Q4 rfl rfl rfl ?_
     have k643 := (hS577.blk.gn hg640)
     refine wpo_store1 (v := .int .i64 k636) (cs' := #[.int .i64 k, .int .i64 l106.s, .int .i64 l106.v, .int .i64 0, .int .i64 k636, .slice (some ⟨B561, 0, none⟩) 0 cap562, .slice (some ⟨B565, 0, none⟩) 0 cap566, .int .i64 to]) X0 rfl rfl rfl k643 (Nat.le_of_ble_eq_true rfl) rfl ?_
     intro w644 hS645
     have hb646 := low1 hb642 hS645.grw (by omega)
     refine wpo_nil ?_
     refine Xl ?_
     refine wpo_move (v := .pointer (some ⟨R, 0, none⟩)) rfl rfl ?_
     have k647 := (kR639.gn hS645.grw)
     refine Xh (vs := [.pointer (some ⟨R, 0, none⟩), .int .i64 3]) Qb (Xb rfl (Xb rfl Xg)) rfl (Yn (p107 + 1) 3 (by omega) _ R bs _ _ _ k647 (by omega) (SlLt.low1 hs hb646 hlo) (by first | exact hb | exact fun b h => hb b (List.mem_of_mem_take h)) (by first | omega | (rw [List.length_take]; omega))) ?_
     rintro _ w653 ⟨k648, rfl, hk649, hk650, kR651, hg652⟩
     have hb654 := Xf hb646 hg652
     refine wpo_quo (c := k648 / 2) rfl rfl (by omega) (by omega) (by omega) rfl rfl ?_
     refine wpo_fieldAddr (o' := 3) Qw rfl rfl rfl ?_
     have k655 := (hS645.blk.gn hg652)
     refine wpo_store1 (v := .int .i64 (k648 / 2)) (cs' := #[.int .i64 k, .int .i64 l106.s, .int .i64 l106.v, .int .i64 (k648 / 2), .int .i64 k636, .slice (some ⟨B561, 0, none⟩) 0 cap562, .slice (some ⟨B565, 0, none⟩) 0 cap566, .int .i64 to]) X0 rfl rfl rfl k655 (Nat.le_of_ble_eq_true rfl) rfl ?_
     intro w656 hS657
     have hb658 := low1 hb654 hS657.grw (by omega)
     refine wpo_nil ?_
     refine Yy ?_
     refine Xn ?_
     refine Xa ?_
     refine wpo_loadn (vs := [.int .i64 k, .int .i64 l106.s, .int .i64 l106.v, .int .i64 (k648 / 2), .int .i64 k636, .slice (some ⟨B561, 0, none⟩) 0 cap562, .slice (some ⟨B565, 0, none⟩) 0 cap566, .int .i64 to]) Xx rfl rfl (hS657.blk.rangeL 0 8 rfl) rfl ?_
     have k659 := ((((((k574.grown0 hN572.grw).gn hS577.grw).gn hg640).gn hS645.grw).gn hg652).gn hS657.grw)
     refine wpo_storen (vs := [.int .i64 k, .int .i64 l106.s, .int .i64 l106.v, .int .i64 (k648 / 2), .int .i64 k636, .slice (some ⟨B561, 0, none⟩) 0 cap562, .slice (some ⟨B565, 0, none⟩) 0 cap566, .int .i64 to]) (cs' := #[.int .i64 k, .int .i64 l106.s, .int .i64 l106.v, .int .i64 (k648 / 2), .int .i64 k636, .slice (some ⟨B561, 0, none⟩) 0 cap562, .slice (some ⟨B565, 0, none⟩) 0 cap566, .int .i64 to]) Xx rfl rfl rfl (by simp [Value.oneCell']) k659 (Nat.le_of_ble_eq_true rfl) rfl ?_
     intro w660 hS661
     have hb662 := low1 hb658 hS661.grw (by omega)
     refine wpo_nil ?_
     refine Xj ?_
     have k663 := (((((((hO568.grown0 hN572.grw).gn hS577.grw).gn hg640).gn hS645.grw).gn hg652).gn hS657.grw).gn hS661.grw)
     have k664 := (((((((hO564.grown0 hN572.grw).gn hS577.grw).gn hg640).gn hS645.grw).gn hg652).gn hS657.grw).gn hS661.grw)
     have k665 := ((kR651.gn hS657.grw).gn hS661.grw)
     refine ⟨.agg #[.int .i64 k, .int .i64 l106.s, .int .i64 l106.v, .int .i64 (k648 / 2), .int .i64 k636, .slice (some ⟨B561, 0, none⟩) 0 cap562, .slice (some ⟨B565, 0, none⟩) 0 cap566, .int .i64 to], resC rfl (resCell_mk (vs := [.int .i64 k, .int .i64 l106.s, .int .i64 l106.v, .int .i64 (k648 / 2), .int .i64 k636, .slice (some ⟨B561, 0, none⟩) 0 cap562, .slice (some ⟨B565, 0, none⟩) 0 cap566, .int .i64 to]) Xx rfl rfl (hS661.blk.rangeL 0 8 rfl)), ⟨⟨k, l106, k648 / 2, k636, ([] : List Rt), ([] : List Int), to⟩, some ⟨B561, 0, none⟩, cap562, some ⟨B565, 0, none⟩, cap566⟩, (p107 + 1 + 1), rfl, ⟨OwnN.of k663 hlB565, ⟨([] : List Rt), OwnN.of k664 hlB561, rfl, ?_⟩, ?_, ?_, ⟨show (0 : Int) ≤ k648 / 2 by omega, show k648 / 2 ≤ (1 : Int) by omega⟩⟩, by omega, by omega, k665, hb662⟩
     ·
      intro x hx; first | (simp [zeros4] at hx; subst hx; exact ⟨by decide, by decide, by decide, by decide⟩) | simp at hx
     ·
      first | exact Nat.le_of_ble_eq_true rfl | omega | (simp only [List.length_nil]; omega)
     ·
      exact Nat.le_of_ble_eq_true rfl
    ·
     have h666 := of_decide_eq_false h633
     refine Xa ?_
     refine wpo_eql (q := decide (k = 4)) rfl rfl rfl rfl ?_
     refine wpo_assign (v := .bool (decide (k = 4))) rfl rfl ?_
     refine wpo_nil ?_
     refine Xq rfl (fun h667 => ?_) (fun h667 => ?_)
     ·
      have h668 := of_decide_eq_true h667
      refine Xa ?_
      refine wpo_move (v := .pointer (some ⟨R, 0, none⟩)) rfl rfl ?_
      have k669 := ((k573.grown0 hN572.grw).gn hS577.grw)
      refine Xh (vs := [.pointer (some ⟨R, 0, none⟩), .int .i64 4]) Qb (Xb rfl (Xb rfl Xg)) rfl (Yn p107 4 (by omega) _ R bs _ _ _ k669 (by omega) (SlLt.low1 hs hb578 hlo) (by first | exact hb | exact fun b h => hb b (List.mem_of_mem_take h)) (by first | omega | (rw [List.length_take]; omega))) ?_
      rintro _ w675 ⟨k670, rfl, hk671, hk672, kR673, hg674⟩
      have hb676 := Xf hb578 hg674
      refine wpo_assign (v := .int .i64 k670) rfl rfl ?_
      refine wpo_nil ?_
      refine Xv ?_
      have k677 := (((hO568.grown0 hN572.grw).gn hS577.grw).gn hg674)
      have k678 := (((k574.grown0 hN572.grw).gn hS577.grw).gn hg674)
      have k679 := (((hO564.grown0 hN572.grw).gn hS577.grw).gn hg674)
      have k680 := (hS577.blk.gn hg674)
      refine Ye (fun mm f' w' => ∃ (n : Int) (p1 : Int) (Bq : Nat) (cq : Nat) (ys : List Int), mm = n.toNat ∧ (0 ≤ n ∧ n ≤ 3) ∧ (p107 + 1 ≤ p1 ∧ p1 ≤ (p107 + 1) + 3 - n) ∧ (ys.length : Int) ≤ 3 - n ∧ Dw.Own w' Bq 3 1 cq ys.length (ys.flatMap icell) ∧ w.heap.size ≤ Bq ∧ R ≠ Bq ∧ B101 ≠ Bq ∧ B561 ≠ Bq ∧ B570 ≠ Bq ∧ f' 9 = .int .i64 n ∧ f' 0 = .pointer (some ⟨R, 0, none⟩) ∧ f' 6 = .pointer (some ⟨B101, 0, none⟩) ∧ f' 7 = .pointer (some ⟨B570, 0, none⟩) ∧ w.grownBy w' (some R) ∧ Blk w' B101 35 #[.int .i64 0, .int .i64 0, .int .i64 0, .int .i64 0, .int .i64 0, .slice none 0 0, .slice none 0 0, .int .i64 0] ∧ Dw.Own w' B561 74 5 cap562 ([] : List Rt).length (([] : List Rt).flatMap Rt.cells) ∧ Blk w' B570 35 #[.int .i64 k, .int .i64 l106.s, .int .i64 l106.v, .int .i64 0, .int .i64 0, .slice (some ⟨B561, 0, none⟩) 0 cap562, .slice (some ⟨Bq, 0, none⟩) ys.length cq, .int .i64 to] ∧ Blk w' R 97 #[.slice a bs.length c, .int .i64 p1]) (k670.toNat) ⟨k670, (p107 + 1), B565, cap566, ([] : List Int), rfl, (by omega), (by omega), (by simp only [List.length_nil]; omega), k677, hlB565, (by omega), (by omega), (by omega), (by omega), rfl, rfl, rfl, rfl, hb676, k678, k679, k680, kR673⟩ ?_
      rintro mm f681 w682 ⟨n, p1, Bq, cq, ys, hm684, hnn, hpp, hyl, hOwn, hlBq, hne0, hne1, hne2, hne3, e685, e686, e687, e688, hb683, k689, k690, k691, k692⟩
      refine Xi ?_
      refine Xa ?_
      refine wpo_move (v := .int .i64 n) e685 rfl ?_
      refine wpo_gtr (q := decide (0 < n)) rfl rfl rfl rfl ?_
      refine wpo_nil ?_
      refine Xq rfl (fun h693 => ?_) (fun h693 => ?_)
      ·
       have h694 := of_decide_eq_true h693
       refine Xk ?_
       refine Xn ?_
       refine Xi ?_
       refine Xv ?_
       refine J4 (m := 5) [[], [0], [], [2], [2, 3], [0, 1, 2, 3, 4], [0, 1, 2, 3, 4, 5], [0, 1, 2, 3, 4, 5, 6]] (fun S F w' => ∃ (k784 : Int) (B791 : Nat), w682.grownBy w' (some R) ∧ F 0 = .pointer (some ⟨R, 0, none⟩) ∧ F 6 = .pointer (some ⟨B101, 0, none⟩) ∧ F 7 = .pointer (some ⟨B570, 0, none⟩) ∧ F 9 = .int .i64 n ∧ (S 3 = false → Blk w' R 97 #[.slice a bs.length c, .int .i64 p1]) ∧ (S 3 = true → F 48 = .int .i64 k784 ∧ 0 ≤ k784 ∧ (k784 < 20 ∨ k784 = 0) ∧ Blk w' R 97 #[.slice a bs.length c, .int .i64 (p1 + 1)]) ∧ (S 4 = true → F 49 = .slice (some ⟨B791, 0, none⟩) 1 1 ∧ w.heap.size ≤ B791 ∧ Blk w' B791 3 (([k784] : List Int).flatMap icell).toArray ∧ B101 < B791 ∧ B561 < B791 ∧ B570 < B791 ∧ R < B791 ∧ Bq < B791 ∧ w682.heap.size ≤ B791) ∧ Vals S F [(0, 45, .pointer (some ⟨B570, 6, none⟩)), (1, 46, .slice (some ⟨Bq, 0, none⟩) ys.length cq), (2, 47, .pointer (some ⟨R, 0, none⟩))]) Qq (by kernel_rfl) ⟨0, 0, X5 _, e686, e687, e688, e685, fun _ => (k692).grown0 (X5 _), Yg, Yg, U9 _⟩ ?_ ?_
       ·
        refine Xu (fun S F w799 hS hbef hcl hI => ?_) ?_
        ·
         obtain ⟨k784, B791, hi800, e801, e802, e803, e804, c_old_R, c_3, c_4, hvs⟩ := hI
         have hb805 := Xf hb683 hi800
         refine wpo_fieldAddr (o' := 6) Qk e803 rfl rfl ?_
         exact wpo_nil ⟨k784, B791, hi800, e801, e802, e803, e804, fun h => c_old_R h, c_3, c_4, Vals.up 0 hvs rfl rfl rfl⟩
        refine Xu (fun S F w806 hS hbef hcl hI => ?_) ?_
        ·
         obtain ⟨k784, B791, hi807, e808, e809, e810, e811, c_old_R, c_3, c_4, hvs⟩ := hI
         have hb812 := Xf hb683 hi807
         have ev813 := Vals.at 0 hvs rfl (Xr 0 hbef rfl)
         have k814 := (k691.gn hi807)
         refine wpo_load1 (v := .slice (some ⟨Bq, 0, none⟩) ys.length cq) Jo ev813 (k814.cell rfl) rfl ?_
         exact wpo_nil ⟨k784, B791, hi807, e808, e809, e810, e811, fun h => c_old_R h, c_3, c_4, Vals.up 1 hvs rfl rfl rfl⟩
        refine Xu (fun S F w815 hS hbef hcl hI => ?_) ?_
        ·
         obtain ⟨k784, B791, hi816, e817, e818, e819, e820, c_old_R, c_3, c_4, hvs⟩ := hI
         have hb821 := Xf hb683 hi816
         refine wpo_move (v := .pointer (some ⟨R, 0, none⟩)) e817 rfl ?_
         exact wpo_nil ⟨k784, B791, hi816, e817, e818, e819, e820, fun h => c_old_R h, fun h => Xt 3 hS hcl rfl h, fun h => Xt 4 hS hcl rfl h, Vals.up 2 hvs rfl rfl rfl⟩
        refine Xu (fun S F w822 hS hbef hcl hI => ?_) ?_
        ·
         obtain ⟨k784, B791, hi823, e824, e825, e826, e827, c_old_R, c_3, c_4, hvs⟩ := hI
         have hb828 := Xf hb683 hi823
         have ev829 := Vals.at 2 hvs rfl (Xr 2 hbef rfl)
         refine Xh (vs := [.pointer (some ⟨R, 0, none⟩), .int .i64 20]) Qb (Xb ev829 (Xb rfl Xg)) rfl (Yn p1 20 (by omega) _ R bs _ _ _ (c_old_R hS) (by omega) (SlLt.low1 hs hb828 hlo) (by first | exact hb | exact fun b h => hb b (List.mem_of_mem_take h)) (by first | omega | (rw [List.length_take]; omega))) ?_
         rintro _ w835 ⟨k830, rfl, hk831, hk832, kR833, hg834⟩
         have hb836 := Xf hb828 hg834
         exact wpo_nil ⟨k830, B791, (Xf hi823 hg834), e824, e825, e826, e827, fun h => Q7 h, fun _ => ⟨rfl, hk831, hk832, kR833⟩, fun h => Xt 4 hS hcl rfl h, Vals.keep hvs rfl⟩
        refine Xu (fun S F w837 hS hbef hcl hI => ?_) ?_
        ·
         obtain ⟨k784, B791, hi838, e839, e840, e841, e842, c_old_R, c_3, c_4, hvs⟩ := hI
         have hb843 := Xf hb683 hi838
         have ev844 := Vals.at 2 hvs rfl (Xr 2 hbef rfl)
         obtain ⟨e845, hk785, hk786, ks3_R⟩ := c_3 (Xr 3 hbef rfl)
         refine wpo_buildSlice (ps := [(0, .int .i64 k784)]) (e := 3) (cs := (([k784] : List Int).flatMap icell).toArray) (Xm e845 Xw) (fun _ => by kernel_rfl) rfl ?_
         intro B846 w847 hN848
         have hlB846 := X1 hN848 hb843
         have k849 := (k689.gn hi838)
         have lt_B101_B846 := Xo hN848 (k849).lt
         have k850 := (k690.gn hi838)
         have lt_B561_B846 := Xo hN848 (k850).lt
         have k851 := (k691.gn hi838)
         have lt_B570_B846 := Xo hN848 (k851).lt
         have k852 := (hOwn.gn hi838)
         have lt_Bq_B846 := Xo hN848 (k852).lt
         have lt_R_B846 := Xo hN848 (ks3_R).lt
         have hb853 := low0 hb843 hN848.grw
         exact wpo_nil ⟨k784, B846, (low0 hi838 hN848.grw), e839, e840, e841, e842, fun hn => Q7 ((Xr 3 hbef rfl).symm.trans hn), fun h => let ⟨y854, y855, y856, y857⟩ := c_3 h; ⟨y854, y855, y856, (y857).grown0 hN848.grw⟩, fun _ => ⟨rfl, hlB846, hN848.blk, lt_B101_B846, lt_B561_B846, lt_B570_B846, (by omega), lt_Bq_B846, (Nat.le_trans hi838.size hN848.ge)⟩, Vals.keep hvs rfl⟩
        exact Kj
       ·
        intro S F w858 hall hI
        obtain ⟨k784, B791, hi859, e860, e861, e862, e863, c_old_R, c_3, c_4, hvs⟩ := hI
        have hb864 := Xf hb683 hi859
        have ev865 := Vals.at 0 hvs rfl (hall 0 (by decide))
        have ev866 := Vals.at 1 hvs rfl (hall 1 (by decide))
        have ev867 := Vals.at 2 hvs rfl (hall 2 (by decide))
        obtain ⟨e868, hk785, hk786, ks3_R⟩ := c_3 (hall 3 (by decide))
        obtain ⟨e869, hlB791, kb_B791, lt_B101_B791, lt_B561_B791, lt_B570_B791, lt_R_B791, lt_Bq_B791, hk_B791⟩ := c_4 (hall 4 (by decide))
        have k870 := (hOwn.gn hi859)
        have k871 := (k689.gn hi859)
        have k872 := (k690.gn hi859)
        have k873 := (k691.gn hi859)
        refine wpo_append (g := icell) (ys := ys) (zs := ([k784] : List Int)) Pm rfl Yb (by omega) V5 ev866 e869 k870 (Je Yb kb_B791) (by simp only [List.length_cons, List.length_nil]; omega) (by omega) rfl ?_
        intro B874 cap875 w876 hO877 hg878 hor879
        have hlB874 : w.heap.size ≤ B874 := by rcases hor879 with h | h; (rw [h]; exact hlBq); exact Nat.le_trans hb864.size h
        have ne_B101_B874 : B101 ≠ B874 := by have h := (k871).lt; omega
        have ne_B561_B874 : B561 ≠ B874 := by have h := (k872).lt; omega
        have ne_B570_B874 : B570 ≠ B874 := by have h := (k873).lt; omega
        have ne_R_B874 : R ≠ B874 := by have h := (ks3_R).lt; omega
        have ne_B791_B874 : B791 ≠ B874 := by have h := (kb_B791).lt; omega
        have hb880 := low1 hb864 hg878 (by omega)
        refine wpo_fieldAddr (o' := 6) Qk e862 rfl rfl ?_
        have k881 := (k873.gn hg878)
        refine wpo_store1 (v := .slice (some ⟨B874, 0, none⟩) ((ys ++ ([k784] : List Int)).length) cap875) (cs' := #[.int .i64 k, .int .i64 l106.s, .int .i64 l106.v, .int .i64 0, .int .i64 0, .slice (some ⟨B561, 0, none⟩) 0 cap562, .slice (some ⟨B874, 0, none⟩) ((ys ++ ([k784] : List Int)).length) cap875, .int .i64 to]) Jo rfl rfl rfl k881 (Nat.le_of_ble_eq_true rfl) rfl ?_
        intro w882 hS883
        have hb884 := low1 hb880 hS883.grw (by omega)
        refine wpo_nil ?_
        refine Yy ?_
        refine Xn ?_
        refine Xl ?_
        refine wpo_move (v := .int .i64 n) e863 rfl ?_
        refine wpo_sub (c := n - 1) rfl rfl (by omega) (by omega) (by omega) rfl ?_
        refine wpo_assign (v := .int .i64 (n - 1)) rfl rfl ?_
        refine wpo_nil ?_
        refine Xn ?_
        have k885 := (hO877.gn hS883.grw)
        have k886 := ((k871.gn hg878).gn hS883.grw)
        have k887 := ((k872.gn hg878).gn hS883.grw)
        have k888 := ((ks3_R.gn hg878).gn hS883.grw)
        exact ⟨(n - 1).toNat, by omega, (n - 1), (p1 + 1), B874, cap875, (ys ++ ([k784] : List Int)), rfl, (by omega), (by omega), (by simp only [List.length_append, List.length_cons, List.length_nil]; omega), k885, hlB874, (by omega), (by omega), (by omega), (by omega), rfl, e860, e861, e862, hb884, k886, k887, hS883.blk, k888⟩
      ·
       have h889 := of_decide_eq_false h693
       refine Yj ?_
       refine Yt ?_
       refine Yt ?_
       refine Jf ?_
       refine Yy ?_
       refine Xn ?_
       refine Xa ?_
       refine wpo_loadn (vs := [.int .i64 k, .int .i64 l106.s, .int .i64 l106.v, .int .i64 0, .int .i64 0, .slice (some ⟨B561, 0, none⟩) 0 cap562, .slice (some ⟨Bq, 0, none⟩) ys.length cq, .int .i64 to]) Xx e688 rfl (k691.rangeL 0 8 rfl) rfl ?_
       refine wpo_storen (vs := [.int .i64 k, .int .i64 l106.s, .int .i64 l106.v, .int .i64 0, .int .i64 0, .slice (some ⟨B561, 0, none⟩) 0 cap562, .slice (some ⟨Bq, 0, none⟩) ys.length cq, .int .i64 to]) (cs' := #[.int .i64 k, .int .i64 l106.s, .int .i64 l106.v, .int .i64 0, .int .i64 0, .slice (some ⟨B561, 0, none⟩) 0 cap562, .slice (some ⟨Bq, 0, none⟩) ys.length cq, .int .i64 to]) Xx e687 rfl rfl (by simp [Value.oneCell']) k689 (Nat.le_of_ble_eq_true rfl) rfl ?_
       intro w890 hS891
       have hb892 := low1 hb683 hS891.grw (by omega)
       refine wpo_nil ?_
       refine Xj ?_
       have k893 := (hOwn.gn hS891.grw)
       have k894 := (k690.gn hS891.grw)
       have k895 := (k692.gn hS891.grw)
       refine ⟨.agg #[.int .i64 k, .int .i64 l106.s, .int .i64 l106.v, .int .i64 0, .int .i64 0, .slice (some ⟨B561, 0, none⟩) 0 cap562, .slice (some ⟨Bq, 0, none⟩) ys.length cq, .int .i64 to], resC rfl (resCell_mk (vs := [.int .i64 k, .int .i64 l106.s, .int .i64 l106.v, .int .i64 0, .int .i64 0, .slice (some ⟨B561, 0, none⟩) 0 cap562, .slice (some ⟨Bq, 0, none⟩) ys.length cq, .int .i64 to]) Xx e687 rfl (hS891.blk.rangeL 0 8 rfl)), ⟨⟨k, l106, 0, 0, ([] : List Rt), ys, to⟩, some ⟨B561, 0, none⟩, cap562, some ⟨Bq, 0, none⟩, cq⟩, p1, rfl, ⟨OwnN.of k893 hlBq, ⟨([] : List Rt), OwnN.of k894 hlB561, rfl, ?_⟩, ?_, ?_, ⟨show (0 : Int) ≤ 0 by omega, show 0 ≤ (1 : Int) by omega⟩⟩, by omega, by omega, k895, hb892⟩
       ·
        intro x hx; first | (simp [zeros4] at hx; subst hx; exact ⟨by decide, by decide, by decide, by decide⟩) | simp at hx
       ·
        first | exact Nat.le_of_ble_eq_true rfl | omega | (simp only [List.length_nil]; omega)
       ·
        exact Nat.le_of_ble_eq_true rfl
     ·
      have h896 := of_decide_eq_false h667
      refine Xa ?_
      refine wpo_eql (q := decide (k = 3)) rfl rfl rfl rfl ?_
      refine wpo_assign (v := .bool (decide (k = 3))) rfl rfl ?_
      refine wpo_nil ?_
      refine Ya rfl h554 ?_
      refine Xk ?_
      refine Yy ?_
      refine Xn ?_
      refine Xa ?_
      refine wpo_loadn (vs := [.int .i64 k, .int .i64 l106.s, .int .i64 l106.v, .int .i64 0, .int .i64 0, .slice (some ⟨B561, 0, none⟩) 0 cap562, .slice (some ⟨B565, 0, none⟩) 0 cap566, .int .i64 to]) Xx rfl rfl (hS577.blk.rangeL 0 8 rfl) rfl ?_
      have k897 := ((k574.grown0 hN572.grw).gn hS577.grw)
      refine wpo_storen (vs := [.int .i64 k, .int .i64 l106.s, .int .i64 l106.v, .int .i64 0, .int .i64 0, .slice (some ⟨B561, 0, none⟩) 0 cap562, .slice (some ⟨B565, 0, none⟩) 0 cap566, .int .i64 to]) (cs' := #[.int .i64 k, .int .i64 l106.s, .int .i64 l106.v, .int .i64 0, .int .i64 0, .slice (some ⟨B561, 0, none⟩) 0 cap562, .slice (some ⟨B565, 0, none⟩) 0 cap566, .int .i64 to]) Xx rfl rfl rfl (by simp [Value.oneCell']) k897 (Nat.le_of_ble_eq_true rfl) rfl ?_
      intro w898 hS899
      have hb900 := low1 hb578 hS899.grw (by omega)
      refine wpo_nil ?_
      refine Xj ?_
      have k901 := (((hO568.grown0 hN572.grw).gn hS577.grw).gn hS899.grw)
      have k902 := (((hO564.grown0 hN572.grw).gn hS577.grw).gn hS899.grw)
      have k903 := (((k573.grown0 hN572.grw).gn hS577.grw).gn hS899.grw)
      refine ⟨.agg #[.int .i64 k, .int .i64 l106.s, .int .i64 l106.v, .int .i64 0, .int .i64 0, .slice (some ⟨B561, 0, none⟩) 0 cap562, .slice (some ⟨B565, 0, none⟩) 0 cap566, .int .i64 to], resC rfl (resCell_mk (vs := [.int .i64 k, .int .i64 l106.s, .int .i64 l106.v, .int .i64 0, .int .i64 0, .slice (some ⟨B561, 0, none⟩) 0 cap562, .slice (some ⟨B565, 0, none⟩) 0 cap566, .int .i64 to]) Xx rfl rfl (hS899.blk.rangeL 0 8 rfl)), ⟨⟨k, l106, 0, 0, ([] : List Rt), ([] : List Int), to⟩, some ⟨B561, 0, none⟩, cap562, some ⟨B565, 0, none⟩, cap566⟩, p107, rfl, ⟨OwnN.of k901 hlB565, ⟨([] : List Rt), OwnN.of k902 hlB561, rfl, ?_⟩, ?_, ?_, ⟨show (0 : Int) ≤ 0 by omega, show 0 ≤ (1 : Int) by omega⟩⟩, by omega, by omega, k903, hb900⟩
      ·
       intro x hx; first | (simp [zeros4] at hx; subst hx; exact ⟨by decide, by decide, by decide, by decide⟩) | simp at hx
      ·
       first | exact Nat.le_of_ble_eq_true rfl | omega | (simp only [List.length_nil]; omega)
      ·
       exact Nat.le_of_ble_eq_true rfl
  ·
   have k904 := (hN103.blk.gn hg115)
   have h905 : thingOk (⟨k, l106, 0, 0, [], [], to⟩ : Th) = false := (Jv h118).symm.trans h556
   refine Xh (vs := [.int .i64 k, .agg #[.int .i64 l106.s, .int .i64 l106.v], .int .i64 to]) Gk (Xb rfl (Xb rfl (Xb rfl Xg))) rfl (Wt k to l106 h118 h556 _) ?_
   rintro _ w906 ⟨rfl, hg907⟩
   have hb908 := low0 hb117 hg907
   refine wpo_move (v := .tuple #[.agg #[.int .i64 0, .int .i64 0, .int .i64 0, .int .i64 0, .int .i64 0, .slice none 0 0, .slice none 0 0, .int .i64 0], .bool false]) rfl rfl ?_
   refine wpo_extract (v := .agg #[.int .i64 0, .int .i64 0, .int .i64 0, .int .i64 0, .int .i64 0, .slice none 0 0, .slice none 0 0, .int .i64 0]) rfl rfl rfl ?_
   refine wpo_extract (v := .bool false) rfl rfl rfl ?_
   refine wpo_alloc (cs := #[.int .i64 0, .int .i64 0, .int .i64 0, .int .i64 0, .int .i64 0, .slice none 0 0, .slice none 0 0, .int .i64 0]) Q6 rfl rfl ?_
   intro B909 w910 hN911
   have hlB909 := X1 hN911 hb908
   have k912 := (kR114.grown0 hg907)
   have lt_R_B909 := Xo hN911 (k912).lt
   have k913 := (k904.grown0 hg907)
   have lt_B101_B909 := Xo hN911 (k913).lt
   have hb914 := low0 hb908 hN911.grw
   refine wpo_storen (vs := [.int .i64 0, .int .i64 0, .int .i64 0, .int .i64 0, .int .i64 0, .slice none 0 0, .slice none 0 0, .int .i64 0]) (cs' := #[.int .i64 0, .int .i64 0, .int .i64 0, .int .i64 0, .int .i64 0, .slice none 0 0, .slice none 0 0, .int .i64 0]) Xx rfl rfl rfl (by simp [Value.oneCell']) hN911.blk (Nat.le_of_ble_eq_true rfl) rfl ?_
   intro w915 hS916
   have hb917 := low1 hb914 hS916.grw (by omega)
   refine wpo_assign (v := .bool false) rfl rfl ?_
   refine wpo_nil ?_
   refine Xi ?_
   refine Xa ?_
   refine wpo_fieldAddr (o' := 0) X9 rfl rfl rfl ?_
   refine wpo_load1 (v := .int .i64 0) X0 rfl (hS916.blk.cell rfl) rfl ?_
   refine wpo_eql (q := true) rfl rfl (by decide) rfl ?_
   refine wpo_nil ?_
   refine X8 rfl rfl ?_
   refine Xl ?_
   refine wpo_build (ps := []) (v := .agg #[.int .i64 0, .int .i64 0]) Xw (fun _ => by kernel_rfl) rfl ?_
   have k918 := ((k912.grown0 hN911.grw).gn hS916.grw)
   have k919 := ((k913.grown0 hN911.grw).gn hS916.grw)
   have h920 : thingOk (⟨1, ⟨0, 0⟩, 0, 0, [], [], 0⟩ : Th) = true := (Jv (by decide)).symm.trans (by decide)
   refine Xh (vs := [.int .i64 1, .agg #[.int .i64 0, .int .i64 0], .int .i64 0]) Gk (Xb rfl (Xb rfl (Xb rfl Xg))) rfl (Jp 1 0 ⟨0, 0⟩ (by decide) (by decide) _) ?_
   rintro _ w921 ⟨B923, cap924, B927, cap928, rfl, hge925, hO926, hge929, hO930, ne_B923_B927, hg922⟩
   have hb931 := low0 hb917 hg922
   have hlB923 := Nat.le_trans hb917.size hge925
   have lt_R_B923 := Nat.lt_of_lt_of_le (k918).lt hge925
   have lt_B101_B923 := Nat.lt_of_lt_of_le (k919).lt hge925
   have lt_B909_B923 := Nat.lt_of_lt_of_le (hS916.blk).lt hge925
   have hlB927 := Nat.le_trans hb917.size hge929
   have lt_R_B927 := Nat.lt_of_lt_of_le (k918).lt hge929
   have lt_B101_B927 := Nat.lt_of_lt_of_le (k919).lt hge929
   have lt_B909_B927 := Nat.lt_of_lt_of_le (hS916.blk).lt hge929
   refine wpo_move (v := .tuple #[.agg #[.int .i64 1, .int .i64 0, .int .i64 0, .int .i64 0, .int .i64 0, .slice (some ⟨B923, 0, none⟩) 0 cap924, .slice (some ⟨B927, 0, none⟩) 0 cap928, .int .i64 0], .bool true]) rfl rfl ?_
   refine wpo_extract (v := .agg #[.int .i64 1, .int .i64 0, .int .i64 0, .int .i64 0, .int .i64 0, .slice (some ⟨B923, 0, none⟩) 0 cap924, .slice (some ⟨B927, 0, none⟩) 0 cap928, .int .i64 0]) rfl rfl rfl ?_
   refine wpo_extract (v := .bool true) rfl rfl rfl ?_
   have k932 := (hS916.blk.grown0 hg922)
   refine wpo_storen (vs := [.int .i64 1, .int .i64 0, .int .i64 0, .int .i64 0, .int .i64 0, .slice (some ⟨B923, 0, none⟩) 0 cap924, .slice (some ⟨B927, 0, none⟩) 0 cap928, .int .i64 0]) (cs' := #[.int .i64 1, .int .i64 0, .int .i64 0, .int .i64 0, .int .i64 0, .slice (some ⟨B923, 0, none⟩) 0 cap924, .slice (some ⟨B927, 0, none⟩) 0 cap928, .int .i64 0]) Xx rfl rfl rfl (by simp [Value.oneCell']) k932 (Nat.le_of_ble_eq_true rfl) rfl ?_
   intro w933 hS934
   have hb935 := low1 hb931 hS934.grw (by omega)
   refine wpo_nil ?_
   refine Xn ?_
   refine Xi ?_
   refine Xa ?_
   refine wpo_fieldAddr (o' := 0) X9 rfl rfl rfl ?_
   refine wpo_load1 (v := .int .i64 1) X0 rfl (hS934.blk.cell rfl) rfl ?_
   refine wpo_nil ?_
   refine Xv ?_
   refine Xa ?_
   refine wpo_eql (q := true) rfl rfl (by decide) rfl ?_
   refine wpo_assign (v := .bool true) rfl rfl ?_
   refine wpo_nil ?_
   refine X8 rfl rfl ?_
   refine Xa ?_
   refine wpo_move (v := .pointer (some ⟨R, 0, none⟩)) rfl rfl ?_
   have k936 := ((k918.grown0 hg922).gn hS934.grw)
   refine Xh (vs := [.pointer (some ⟨R, 0, none⟩), .int .i64 20]) Qb (Xb rfl (Xb rfl Xg)) rfl (Yn p107 20 (by omega) _ R bs _ _ _ k936 (by omega) (SlLt.low1 hs hb935 hlo) (by first | exact hb | exact fun b h => hb b (List.mem_of_mem_take h)) (by first | omega | (rw [List.length_take]; omega))) ?_
   rintro _ w942 ⟨k937, rfl, hk938, hk939, kR940, hg941⟩
   have hb943 := Xf hb935 hg941
   refine wpo_fieldAddr (o' := 4) Q4 rfl rfl rfl ?_
   have k944 := (hS934.blk.gn hg941)
   refine wpo_store1 (v := .int .i64 k937) (cs' := #[.int .i64 1, .int .i64 0, .int .i64 0, .int .i64 0, .int .i64 k937, .slice (some ⟨B923, 0, none⟩) 0 cap924, .slice (some ⟨B927, 0, none⟩) 0 cap928, .int .i64 0]) X0 rfl rfl rfl k944 (Nat.le_of_ble_eq_true rfl) rfl ?_
   intro w945 hS946
   have hb947 := low1 hb943 hS946.grw (by omega)
   refine wpo_nil ?_
   refine Xl ?_
   refine wpo_move (v := .pointer (some ⟨R, 0, none⟩)) rfl rfl ?_
   have k948 := (kR940.gn hS946.grw)
   refine Xh (vs := [.pointer (some ⟨R, 0, none⟩), .int .i64 3]) Qb (Xb rfl (Xb rfl Xg)) rfl (Yn (p107 + 1) 3 (by omega) _ R bs _ _ _ k948 (by omega) (SlLt.low1 hs hb947 hlo) (by first | exact hb | exact fun b h => hb b (List.mem_of_mem_take h)) (by first | omega | (rw [List.length_take]; omega))) ?_
   rintro _ w954 ⟨k949, rfl, hk950, hk951, kR952, hg953⟩
   have hb955 := Xf hb947 hg953
   refine wpo_quo (c := k949 / 2) rfl rfl (by omega) (by omega) (by omega) rfl rfl ?_
   refine wpo_fieldAddr (o' := 3) Qw rfl rfl rfl ?_
   have k956 := (hS946.blk.gn hg953)
   refine wpo_store1 (v := .int .i64 (k949 / 2)) (cs' := #[.int .i64 1, .int .i64 0, .int .i64 0, .int .i64 (k949 / 2), .int .i64 k937, .slice (some ⟨B923, 0, none⟩) 0 cap924, .slice (some ⟨B927, 0, none⟩) 0 cap928, .int .i64 0]) X0 rfl rfl rfl k956 (Nat.le_of_ble_eq_true rfl) rfl ?_
   intro w957 hS958
   have hb959 := low1 hb955 hS958.grw (by omega)
   refine wpo_nil ?_
   refine Yy ?_
   refine Xn ?_
   refine Xa ?_
   refine wpo_loadn (vs := [.int .i64 1, .int .i64 0, .int .i64 0, .int .i64 (k949 / 2), .int .i64 k937, .slice (some ⟨B923, 0, none⟩) 0 cap924, .slice (some ⟨B927, 0, none⟩) 0 cap928, .int .i64 0]) Xx rfl rfl (hS958.blk.rangeL 0 8 rfl) rfl ?_
   have k960 := ((((((k919.grown0 hg922).gn hS934.grw).gn hg941).gn hS946.grw).gn hg953).gn hS958.grw)
   refine wpo_storen (vs := [.int .i64 1, .int .i64 0, .int .i64 0, .int .i64 (k949 / 2), .int .i64 k937, .slice (some ⟨B923, 0, none⟩) 0 cap924, .slice (some ⟨B927, 0, none⟩) 0 cap928, .int .i64 0]) (cs' := #[.int .i64 1, .int .i64 0, .int .i64 0, .int .i64 (k949 / 2), .int .i64 k937, .slice (some ⟨B923, 0, none⟩) 0 cap924, .slice (some ⟨B927, 0, none⟩) 0 cap928, .int .i64 0]) Xx rfl rfl rfl (by simp [Value.oneCell']) k960 (Nat.le_of_ble_eq_true rfl) rfl ?_
   intro w961 hS962
   have hb963 := low1 hb959 hS962.grw (by omega)
   refine wpo_nil ?_
   refine Xj ?_
   have k964 := ((((((hO930.gn hS934.grw).gn hg941).gn hS946.grw).gn hg953).gn hS958.grw).gn hS962.grw)
   have k965 := ((((((hO926.gn hS934.grw).gn hg941).gn hS946.grw).gn hg953).gn hS958.grw).gn hS962.grw)
   have k966 := ((kR952.gn hS958.grw).gn hS962.grw)
   refine ⟨.agg #[.int .i64 1, .int .i64 0, .int .i64 0, .int .i64 (k949 / 2), .int .i64 k937, .slice (some ⟨B923, 0, none⟩) 0 cap924, .slice (some ⟨B927, 0, none⟩) 0 cap928, .int .i64 0], resC rfl (resCell_mk (vs := [.int .i64 1, .int .i64 0, .int .i64 0, .int .i64 (k949 / 2), .int .i64 k937, .slice (some ⟨B923, 0, none⟩) 0 cap924, .slice (some ⟨B927, 0, none⟩) 0 cap928, .int .i64 0]) Xx rfl rfl (hS962.blk.rangeL 0 8 rfl)), ⟨⟨1, ⟨0, 0⟩, k949 / 2, k937, ([] : List Rt), ([] : List Int), 0⟩, some ⟨B923, 0, none⟩, cap924, some ⟨B927, 0, none⟩, cap928⟩, (p107 + 1 + 1), rfl, ⟨OwnN.of k964 hlB927, ⟨([] : List Rt), OwnN.of k965 hlB923, rfl, ?_⟩, ?_, ?_, ⟨show (0 : Int) ≤ k949 / 2 by omega, show k949 / 2 ≤ (1 : Int) by omega⟩⟩, by omega, by omega, k966, hb963⟩
   ·
    intro x hx; first | (simp [zeros4] at hx; subst hx; exact ⟨by decide, by decide, by decide, by decide⟩) | simp at hx
   ·
    first | exact Nat.le_of_ble_eq_true rfl | omega | (simp only [List.length_nil]; omega)
   ·
    exact Nat.le_of_ble_eq_true rfl
theorem Hj [Comp] (p : Int) (hp : 0 ≤ p ∧ p ≤ 999999990000) (lo R : Nat) (bs : List Int) (a : Option Addr) (c : Nat) (w : World) (hR : Blk w R 97 #[.slice a bs.length c, .int .i64 p]) (hlo : lo ≤ R) (hs : SlLt lo w a 1 (bs.map bcell)) (hb : ∀ b ∈ bs, 0 ≤ b ∧ b ≤ 255) (hn : bs.length ≤ 1048576) : CallsR Try.prog 70 #[.pointer (some ⟨R, 0, none⟩)] w (fun v w' => ∃ (B cap : Nat) (ms : List MTh) (p' : Int), v = .slice (some ⟨B, 0, none⟩) ms.length cap ∧ TabG w.heap.size w' (some ⟨B, 0, none⟩) ms ∧ Small ms ∧ (3 ≤ ms.length ∧ ms.length ≤ 8) ∧ p ≤ p' ∧ p' ≤ p + 600 ∧ Blk w' R 97 #[.slice a bs.length c, .int .i64 p'] ∧ w.grownBy w' (some R)) := by
 refine Xp (n := 142) Try.func70 rfl Try.ntmps70 rfl ?_
 have hb0 := World.grownBy.refl w (some R)
 have hRlt := hR.lt
 refine Xa ?_
 refine wpo_assign (v := .slice none 0 0) rfl rfl ?_
 refine wpo_nil ?_
 refine Xa ?_
 refine wpo_buildSlice (ps := [(0, .int .i64 1), (1, .int .i64 3), (2, .int .i64 3)]) (e := 3) (cs := (([1, 3, 3] : List Int).flatMap icell).toArray) (Xm rfl (Xm rfl (Xm rfl Xw))) (fun _ => by kernel_rfl) rfl ?_
 intro B101 w102 hN103
 have hlB101 := X1 hN103 hb0
 have lt_R_B101 := Xo hN103 (hR).lt
 have hb104 := low0 hb0 hN103.grw
 refine wpo_assign (v := .slice (some ⟨B101, 0, none⟩) 3 3) rfl rfl ?_
 refine wpo_nil ?_
 refine Xi ?_
 refine Xa ?_
 refine wpo_move (v := .pointer (some ⟨R, 0, none⟩)) rfl rfl ?_
 have k105 := (hR.grown0 hN103.grw)
 refine Xh (vs := [.pointer (some ⟨R, 0, none⟩), .int .i64 6]) Qb (Xb rfl (Xb rfl Xg)) rfl (Yn p 6 (by omega) _ R bs _ _ _ k105 (by omega) (SlLt.low1 hs hb104 hlo) (by first | exact hb | exact fun b h => hb b (List.mem_of_mem_take h)) (by first | omega | (rw [List.length_take]; omega))) ?_
 rintro _ w111 ⟨k106, rfl, hk107, hk108, kR109, hg110⟩
 have hb112 := Xf hb104 hg110
 refine wpo_assign (v := .int .i64 k106) rfl rfl ?_
 refine wpo_nil ?_
 refine Xv ?_
 have k113 := (hN103.blk.gn hg110)
 refine Ye (fun mm f' w' => ∃ (n : Int) (p1 : Int) (Bk : Nat) (ck : Nat) (ks : List Int), mm = n.toNat ∧ (0 ≤ n ∧ n ≤ 5) ∧ (p ≤ p1 ∧ p1 ≤ p + 6 - n) ∧ (3 ≤ ks.length ∧ (ks.length : Int) ≤ 8 - n) ∧ (∀ y ∈ ks, 1 ≤ y ∧ y ≤ 5) ∧ Dw.Own w' Bk 3 1 ck ks.length (ks.flatMap icell) ∧ w.heap.size ≤ Bk ∧ R ≠ Bk ∧ f' 3 = .slice (some ⟨Bk, 0, none⟩) ks.length ck ∧ f' 4 = .int .i64 n ∧ f' 0 = .pointer (some ⟨R, 0, none⟩) ∧ f' 2 = .slice none 0 0 ∧ w.grownBy w' (some R) ∧ Blk w' R 97 #[.slice a bs.length c, .int .i64 p1]) (k106.toNat) ⟨k106, (p + 1), B101, 3, ([1, 3, 3] : List Int), rfl, (by omega), (by omega), (by simp only [List.length_nil, List.length_cons]; omega), (by intro y hy; simp at hy; omega), (Own.rows Yb k113 (by simp)), hlB101, (by omega), rfl, rfl, rfl, rfl, hb112, kR109⟩ ?_
 rintro mm f114 w115 ⟨n, p1, Bk, ck, ks, hm117, hnn, hpp, hkl, hks, hOk, hlBk, hne0, e118, e119, e120, e121, hb116, k122⟩
 refine Xi ?_
 refine Xa ?_
 refine wpo_move (v := .int .i64 n) e119 rfl ?_
 refine wpo_gtr (q := decide (0 < n)) rfl rfl rfl rfl ?_
 refine wpo_nil ?_
 refine Xq rfl (fun h123 => ?_) (fun h123 => ?_)
 ·
  have h124 := of_decide_eq_true h123
  refine Xk ?_
  refine Xn ?_
  refine Xi ?_
  refine Xv ?_
  refine Xl ?_
  refine wpo_move (v := .slice (some ⟨Bk, 0, none⟩) ks.length ck) e118 rfl ?_
  refine wpo_buildSlice (ps := [(0, .int .i64 1), (1, .int .i64 2), (2, .int .i64 2), (3, .int .i64 3), (4, .int .i64 4), (5, .int .i64 5)]) (e := 3) (cs := (([1, 2, 2, 3, 4, 5] : List Int).flatMap icell).toArray) (Xm rfl (Xm rfl (Xm rfl (Xm rfl (Xm rfl (Xm rfl Xw)))))) (fun _ => by kernel_rfl) rfl ?_
  intro B125 w126 hN127
  have hlB125 := X1 hN127 hb116
  have lt_R_B125 := Xo hN127 (k122).lt
  have lt_Bk_B125 := Xo hN127 (hOk).lt
  have hb128 := low0 hb116 hN127.grw
  refine wpo_move (v := .pointer (some ⟨R, 0, none⟩)) e120 rfl ?_
  have k129 := (k122.grown0 hN127.grw)
  refine Xh (vs := [.pointer (some ⟨R, 0, none⟩), .int .i64 6]) Qb (Xb rfl (Xb rfl Xg)) rfl (Yn p1 6 (by omega) _ R bs _ _ _ k129 (by omega) (SlLt.low1 hs hb128 hlo) (by first | exact hb | exact fun b h => hb b (List.mem_of_mem_take h)) (by first | omega | (rw [List.length_take]; omega))) ?_
  rintro _ w135 ⟨k130, rfl, hk131, hk132, kR133, hg134⟩
  have hb136 := Xf hb128 hg134
  refine wpo_indexAddr (o' := (k130).toNat * 1) Km rfl rfl (by omega) (by omega) (by omega) rfl ?_
  have k137 := (hN127.blk.gn hg134)
  obtain ⟨x138, hx139⟩ := Qc (l := ([1, 2, 2, 3, 4, 5] : List Int)) (i := (k130).toNat) (show (k130).toNat < 6 by omega)
  have hm140 := List.mem_of_getElem? hx139
  simp only [List.mem_cons, List.not_mem_nil, or_false] at hm140
  refine wpo_load1 (v := .int .i64 x138) X0 rfl ((Jl Yb k137 hx139) 0 _ rfl) rfl ?_
  refine wpo_buildSlice (ps := [(0, .int .i64 x138)]) (e := 3) (cs := (([x138] : List Int).flatMap icell).toArray) (Xm rfl Xw) (fun _ => by kernel_rfl) rfl ?_
  intro B141 w142 hN143
  have hlB141 := X1 hN143 hb136
  have lt_R_B141 := Xo hN143 (kR133).lt
  have k144 := ((hOk.grown0 hN127.grw).gn hg134)
  have lt_Bk_B141 := Xo hN143 (k144).lt
  have lt_B125_B141 := Xo hN143 (k137).lt
  have hb145 := low0 hb136 hN143.grw
  have k146 := (k144.grown0 hN143.grw)
  have k147 := (kR133.grown0 hN143.grw)
  have k148 := (k137.grown0 hN143.grw)
  refine wpo_append (g := icell) (ys := ks) (zs := ([x138] : List Int)) Pm rfl Yb (by omega) V5 rfl rfl k146 (Je Yb hN143.blk) (by simp only [List.length_cons, List.length_nil]; omega) (by omega) rfl ?_
  intro B149 cap150 w151 hO152 hg153 hor154
  have hlB149 : w.heap.size ≤ B149 := by rcases hor154 with h | h; (rw [h]; exact hlBk); exact Nat.le_trans hb145.size h
  have ne_R_B149 : R ≠ B149 := by have h := (k147).lt; omega
  have ne_B125_B149 : B125 ≠ B149 := by have h := (k148).lt; omega
  have ne_B141_B149 : B141 ≠ B149 := by have h := (hN143.blk).lt; omega
  have hb155 := low1 hb145 hg153 (by omega)
  refine wpo_assign (v := .slice (some ⟨B149, 0, none⟩) ((ks ++ ([x138] : List Int)).length) cap150) rfl rfl ?_
  refine wpo_nil ?_
  refine Yy ?_
  refine Xn ?_
  refine Xl ?_
  refine wpo_move (v := .int .i64 n) e119 rfl ?_
  refine wpo_sub (c := n - 1) rfl rfl (by omega) (by omega) (by omega) rfl ?_
  refine wpo_assign (v := .int .i64 (n - 1)) rfl rfl ?_
  refine wpo_nil ?_
  refine Xn ?_
  have k156 := (k147.gn hg153)
  exact ⟨(n - 1).toNat, by omega, (n - 1), (p1 + 1), B149, cap150, (ks ++ ([x138] : List Int)), rfl, (by omega), (by omega), (by simp only [List.length_append, List.length_cons, List.length_nil]; omega), (by intro y hy; rcases List.mem_append.1 hy with h | h; exact hks y h; (simp at h; omega)), hO152, hlB149, (by omega), rfl, rfl, e120, e121, hb155, k156⟩
 ·
  have h157 := of_decide_eq_false h123
  refine Yj ?_
  refine Yt ?_
  refine Yt ?_
  refine Jf ?_
  refine Xn ?_
  refine Xa ?_
  refine wpo_buildSlice (ps := []) (e := 35) (cs := (([] : List MTh).flatMap MTh.cells).toArray) Xw (fun _ => by kernel_rfl) rfl ?_
  intro B158 w159 hN160
  have hlB158 := X1 hN160 hb116
  have lt_R_B158 := Xo hN160 (k122).lt
  have lt_Bk_B158 := Xo hN160 (hOk).lt
  have hb161 := low0 hb116 hN160.grw
  refine wpo_assign (v := .slice (some ⟨B158, 0, none⟩) 0 0) rfl rfl ?_
  refine wpo_nil ?_
  refine Xi ?_
  refine Xa ?_
  refine wpo_assign (v := .int .i64 0) rfl rfl ?_
  refine wpo_nil ?_
  refine Xv ?_
  have k162 := (hOk.grown0 hN160.grw)
  have k163 := (k122.grown0 hN160.grw)
  refine Ye (fun mm f' w' => ∃ (i : Nat) (p2 : Int) (Bt : Nat) (ct : Nat) (ms : List MTh), mm = ks.length - i ∧ i ≤ ks.length ∧ (p ≤ p2 ∧ p2 ≤ p + 6 + 12 * (i : Int)) ∧ ms.length = i ∧ RowsD 74 3 w.heap.size w' ms ∧ Dw.Own w' Bt 35 8 ct ms.length (ms.flatMap MTh.cells) ∧ w.heap.size ≤ Bt ∧ R ≠ Bt ∧ Bk ≠ Bt ∧ f' 5 = .slice (some ⟨Bt, 0, none⟩) ms.length ct ∧ f' 6 = .int .i64 (i : Int) ∧ f' 0 = .pointer (some ⟨R, 0, none⟩) ∧ f' 2 = .slice none 0 0 ∧ f' 3 = .slice (some ⟨Bk, 0, none⟩) ks.length ck ∧ w.grownBy w' (some R) ∧ Dw.Own w' Bk 3 1 ck ks.length (ks.flatMap icell) ∧ Blk w' R 97 #[.slice a bs.length c, .int .i64 p2]) (ks.length - 0) ⟨0, p1, B158, 0, ([] : List MTh), rfl, (Nat.zero_le _), (by omega), rfl, RowsD.nil, (Own.rows Ym hN160.blk (by simp)), hlB158, (by omega), (by omega), rfl, rfl, e120, e121, e118, hb161, k162, k163⟩ ?_
  rintro mm f164 w165 ⟨i, p2, Bt, ct, ms, hm167, hi, hpp2, hml, hRows, hOt, hlBt, hnf0, hnf1, e168, e169, e170, e171, e172, hb166, k173, k174⟩
  have hkl2 := hkl
  refine Xi ?_
  refine Xa ?_
  refine wpo_move (v := .int .i64 (i : Int)) e169 rfl ?_
  refine wpo_move (v := .slice (some ⟨Bk, 0, none⟩) ks.length ck) e172 rfl ?_
  refine wpo_len (by kernel_rfl) rfl rfl ?_
  refine wpo_lss (q := decide ((i : Int) < (ks.length : Int))) rfl rfl rfl rfl ?_
  refine wpo_nil ?_
  refine Xq rfl (fun h175 => ?_) (fun h175 => ?_)
  ·
   have h176 := of_decide_eq_true h175
   refine Xk ?_
   refine Xn ?_
   refine Xi ?_
   refine Xv ?_
   refine Xa ?_
   refine wpo_assign (v := .int .i64 0) rfl rfl ?_
   refine wpo_nil ?_
   refine Xi ?_
   refine Xa ?_
   refine wpo_move (v := .slice (some ⟨Bk, 0, none⟩) ks.length ck) e172 rfl ?_
   refine wpo_move (v := .int .i64 (i : Int)) e169 rfl ?_
   refine wpo_indexAddr (o' := i * 1) Km rfl rfl (by omega) (by omega) (by omega) rfl ?_
   obtain ⟨x177, hx178⟩ := Qc (l := ks) (i := i) (by omega)
   refine wpo_load1 (v := .int .i64 x177) X0 rfl ((Own.range Yb k173 hx178) 0 _ rfl) rfl ?_
   refine wpo_eql (q := decide (x177 = 5)) rfl rfl rfl rfl ?_
   refine wpo_nil ?_
   refine Nt (fun f' w' => (f' 0 = .pointer (some ⟨R, 0, none⟩) ∧ f' 2 = .slice none 0 0 ∧ f' 3 = .slice (some ⟨Bk, 0, none⟩) ks.length ck ∧ f' 5 = .slice (some ⟨Bt, 0, none⟩) ms.length ct ∧ f' 6 = .int .i64 (i : Int) ∧ f' 7 = .int .i64 (if x177 = 5 then 1 else 0)) ∧ w165 = w') ?_ ?_
   ·
    refine Xq rfl (fun h179 => ?_) (fun h179 => ?_)
    ·
     have h180 := of_decide_eq_true h179
     refine Xl ?_
     refine wpo_assign (v := .int .i64 1) rfl rfl ?_
     refine wpo_nil ?_
     refine Xn ?_
     exact ⟨⟨e170, e171, e172, e168, e169, (congrArg (Value.int .i64) (if_pos (of_decide_eq_true h179)).symm)⟩, rfl⟩
    ·
     have h181 := of_decide_eq_false h179
     refine Xk ?_
     refine Xn ?_
     exact ⟨⟨e170, e171, e172, e168, e169, (congrArg (Value.int .i64) (if_neg (of_decide_eq_false h179)).symm)⟩, rfl⟩
   ·
    rintro f182 _ ⟨⟨e184, e185, e186, e187, e188, e189⟩, rfl⟩
    refine Xn ?_
    refine Xl ?_
    refine wpo_move (v := .slice (some ⟨Bt, 0, none⟩) ms.length ct) e187 rfl ?_
    refine wpo_move (v := .pointer (some ⟨R, 0, none⟩)) e184 rfl ?_
    refine wpo_move (v := .slice (some ⟨Bk, 0, none⟩) ks.length ck) e186 rfl ?_
    refine wpo_move (v := .int .i64 (i : Int)) e188 rfl ?_
    refine wpo_indexAddr (o' := i * 1) Km rfl rfl (by omega) (by omega) (by omega) rfl ?_
    refine wpo_load1 (v := .int .i64 x177) X0 rfl ((Own.range Yb k173 hx178) 0 _ rfl) rfl ?_
    refine wpo_move (v := .int .i64 (if x177 = 5 then 1 else 0)) e189 rfl ?_
    refine Xh (vs := [.pointer (some ⟨R, 0, none⟩), .int .i64 x177, .int .i64 (if x177 = 5 then 1 else 0)]) Fb (Xb rfl (Xb rfl (Xb rfl Xg))) rfl (R2 x177 (if x177 = 5 then 1 else 0) p2 (by omega) _ R bs _ _ _ k174 (by omega) (SlLt.low1 hs hb166 hlo) (by first | exact hb | exact fun b h => hb b (List.mem_of_mem_take h)) (by first | omega | (rw [List.length_take]; omega))) ?_
    rintro _ w197 ⟨m190, p191, rfl, hRD192, hp193, hp194, kR195, hg196⟩
    have hb198 := Xf hb166 hg196
    have hRD199 := RowD.mono hRD192 hb166.size
    refine wpo_buildSlice (ps := [(0, .agg #[.int .i64 m190.t.kind, .int .i64 m190.t.lab.s, .int .i64 m190.t.lab.v, .int .i64 m190.t.ve, .int .i64 m190.t.num, .slice m190.sa m190.t.slots.length m190.sc, .slice m190.qa m190.t.queue.length m190.qc, .int .i64 m190.t.to])]) (e := 35) (cs := (([m190] : List MTh).flatMap MTh.cells).toArray) (Xm rfl Xw) (fun _ => by kernel_rfl) rfl ?_
    intro B200 w201 hN202
    have hlB200 := X1 hN202 hb198
    have k203 := (k173.gn hg196)
    have lt_Bk_B200 := Xo hN202 (k203).lt
    have lt_R_B200 := Xo hN202 (kR195).lt
    have k204 := (hOt.gn hg196)
    have lt_Bt_B200 := Xo hN202 (k204).lt
    have hb205 := low0 hb198 hN202.grw
    have k206 := (k204.grown0 hN202.grw)
    have k207 := (k203.grown0 hN202.grw)
    have k208 := (kR195.grown0 hN202.grw)
    refine wpo_append (g := MTh.cells) (ys := ms) (zs := ([m190] : List MTh)) S4 rfl Ym (by omega) Wm rfl rfl k206 (Je Ym hN202.blk) (by simp only [List.length_cons, List.length_nil]; omega) (by omega) rfl ?_
    intro B209 cap210 w211 hO212 hg213 hor214
    have hlB209 : w.heap.size ≤ B209 := by rcases hor214 with h | h; (rw [h]; exact hlBt); exact Nat.le_trans hb205.size h
    have ne_Bk_B209 : Bk ≠ B209 := by have h := (k207).lt; omega
    have ne_R_B209 : R ≠ B209 := by have h := (k208).lt; omega
    have ne_B200_B209 : B200 ≠ B209 := by have h := (hN202.blk).lt; omega
    have hb215 := low1 hb205 hg213 (by omega)
    refine wpo_assign (v := .slice (some ⟨B209, 0, none⟩) ((ms ++ ([m190] : List MTh)).length) cap210) rfl rfl ?_
    refine wpo_nil ?_
    refine Yy ?_
    refine Xn ?_
    refine Xl ?_
    refine wpo_move (v := .int .i64 (i : Int)) e188 rfl ?_
    refine wpo_add (c := (i : Int) + 1) rfl rfl (by omega) (by omega) (by omega) rfl ?_
    refine wpo_assign (v := .int .i64 ((i : Int) + 1)) rfl rfl ?_
    refine wpo_nil ?_
    refine Xn ?_
    have hRw216 := (RowsD.typ (RowsD.low (RowsD.lt hRows hg196 (by omega)) hN202.grw) hg213 k206 (by decide) (by decide))
    have k217 := (k207.gn hg213)
    have k218 := (k208.gn hg213)
    exact ⟨ks.length - (i + 1), by omega, (i + 1), p191, B209, cap210, (ms ++ ([m190] : List MTh)), rfl, (by omega), (by omega), (by rw [List.length_append, hml]; rfl), (RowsD.snoc hRw216 (RowD.typ (RowD.low hRD199 hN202.grw) hg213 k206 (by decide) (by decide))), hO212, hlB209, (by omega), (by omega), rfl, rfl, e184, e185, e186, hb215, k217, k218⟩
  ·
   have h219 := of_decide_eq_false h175
   refine Yj ?_
   refine Yt ?_
   refine Yt ?_
   refine Jf ?_
   refine Xn ?_
   refine Xi ?_
   refine Xa ?_
   refine wpo_assign (v := .int .i64 0) rfl rfl ?_
   refine wpo_nil ?_
   refine Xv ?_
   obtain ⟨hi, hhi⟩ : ∃ n, n = w165.heap.size := ⟨_, rfl⟩
   have hH := RowsD.hi hRows
   rw [← hhi] at hH
   have hbt := (hOt).lt
   refine Ye (fun mm f' w' => ∃ (i3 : Nat) (p3 : Int), mm = ms.length - i3 ∧ i3 ≤ ms.length ∧ (p ≤ p3 ∧ p3 ≤ p + 102 + 56 * (i3 : Int)) ∧ RowsD 74 3 w.heap.size w' ms ∧ Dw.Own w' Bt 35 8 ct ms.length (ms.flatMap MTh.cells) ∧ hi ≤ w'.heap.size ∧ f' 8 = .int .i64 (i3 : Int) ∧ f' 0 = .pointer (some ⟨R, 0, none⟩) ∧ f' 2 = .slice none 0 0 ∧ f' 5 = .slice (some ⟨Bt, 0, none⟩) ms.length ct ∧ w.grownBy w' (some R) ∧ Dw.Own w' Bt 35 8 ct ms.length (ms.flatMap MTh.cells) ∧ Blk w' R 97 #[.slice a bs.length c, .int .i64 p3]) (ms.length - 0) ⟨0, p2, rfl, (Nat.zero_le _), (by omega), hRows, hOt, (Nat.le_of_eq hhi), rfl, e170, e171, e168, hb166, hOt, k174⟩ ?_
   rintro mm f220 w221 ⟨i3, p3, hm223, hi3, hpp3, hRows, hOt, hhs, e224, e225, e226, e227, hb222, k228, k229⟩
   refine Xi ?_
   refine Xa ?_
   refine wpo_move (v := .int .i64 (i3 : Int)) e224 rfl ?_
   refine wpo_move (v := .slice (some ⟨Bt, 0, none⟩) ms.length ct) e227 rfl ?_
   refine wpo_len (by kernel_rfl) rfl rfl ?_
   refine wpo_lss (q := decide ((i3 : Int) < (ms.length : Int))) rfl rfl rfl rfl ?_
   refine wpo_nil ?_
   refine Xq rfl (fun h230 => ?_) (fun h230 => ?_)
   ·
    have h231 := of_decide_eq_true h230
    refine Xk ?_
    refine Xn ?_
    refine Xi ?_
    refine Xv ?_
    refine Xa ?_
    refine wpo_assign (v := .int .i64 0) rfl rfl ?_
    refine wpo_nil ?_
    refine Xv ?_
    refine Ye (fun mm f' w' => ∃ (j : Nat) (p4 : Int), mm = (mAt ms i3).t.slots.length - j ∧ j ≤ (mAt ms i3).t.slots.length ∧ (p3 ≤ p4 ∧ p4 ≤ p3 + 14 * (j : Int)) ∧ RowsD 74 3 w.heap.size w' ms ∧ Dw.Own w' Bt 35 8 ct ms.length (ms.flatMap MTh.cells) ∧ hi ≤ w'.heap.size ∧ f' 9 = .int .i64 (j : Int) ∧ f' 0 = .pointer (some ⟨R, 0, none⟩) ∧ f' 2 = .slice none 0 0 ∧ f' 5 = .slice (some ⟨Bt, 0, none⟩) ms.length ct ∧ f' 8 = .int .i64 (i3 : Int) ∧ w.grownBy w' (some R) ∧ Dw.Own w' Bt 35 8 ct ms.length (ms.flatMap MTh.cells) ∧ Blk w' R 97 #[.slice a bs.length c, .int .i64 p4]) ((mAt ms i3).t.slots.length - 0) ⟨0, p3, rfl, (Nat.zero_le _), (by omega), hRows, hOt, hhs, rfl, e225, e226, e227, e224, hb222, hOt, k229⟩ ?_
    rintro mm f232 w233 ⟨j, p4, hm235, hj, hpp4, hRows, hOt, hhs, e236, e237, e238, e239, e240, hb234, k241, k242⟩
    have hsl4 := (RowsD.at hRows (show i3 < ms.length by omega)).sl
    refine Xi ?_
    refine Xa ?_
    refine wpo_move (v := .int .i64 (j : Int)) e236 rfl ?_
    refine wpo_move (v := .slice (some ⟨Bt, 0, none⟩) ms.length ct) e239 rfl ?_
    refine wpo_move (v := .int .i64 (i3 : Int)) e240 rfl ?_
    refine wpo_indexAddr (o' := i3 * 8) Qp rfl rfl (by omega) (by omega) (by omega) rfl ?_
    refine wpo_fieldAddr (o' := i3 * 8 + 5) Y2 rfl rfl rfl ?_
    have hve243 := (RowsD.at hRows (show i3 < ms.length by omega)).ve
    refine wpo_load1 (v := .slice ((mAt ms i3).sa) ((mAt ms i3).t.slots.length) ((mAt ms i3).sc)) Jc rfl ((Own.range Ym hOt (Xz (show i3 < ms.length by omega))) 5 _ rfl) rfl ?_
    refine wpo_len (by kernel_rfl) rfl rfl ?_
    refine wpo_lss (q := decide ((j : Int) < ((mAt ms i3).t.slots.length : Int))) rfl rfl rfl rfl ?_
    refine wpo_nil ?_
    refine Xq rfl (fun h244 => ?_) (fun h244 => ?_)
    ·
     have h245 := of_decide_eq_true h244
     refine Xk ?_
     refine Xn ?_
     refine Xi ?_
     refine Xv ?_
     refine Xa ?_
     refine wpo_move (v := .pointer (some ⟨R, 0, none⟩)) e237 rfl ?_
     refine Xh (vs := [.pointer (some ⟨R, 0, none⟩)]) Fc (Xb rfl Xg) rfl (R1 p4 (by omega) _ R bs _ _ _ k242 (by omega) (SlLt.low1 hs hb234 hlo) (by first | exact hb | exact fun b h => hb b (List.mem_of_mem_take h)) (by first | omega | (rw [List.length_take]; omega))) ?_
     rintro _ w256 ⟨r246, p247, rfl, hr248, hr249, hr250, hr251, hp252, hp253, kR254, hg255⟩
     have hb257 := Xf hb234 hg255
     refine wpo_alloc (cs := #[.int .i64 0, .int .i64 0, .bool false, .bool false, .bool false]) H1 rfl rfl ?_
     intro B258 w259 hN260
     have hlB258 := X1 hN260 hb257
     have hhiB258 : hi ≤ B258 := Nat.le_trans (Nat.le_trans hhs hg255.size) hN260.ge
     have k261 := (hOt.gn hg255)
     have lt_Bt_B258 := Xo hN260 (k261).lt
     have lt_R_B258 := Xo hN260 (kR254).lt
     have hb262 := low0 hb257 hN260.grw
     refine wpo_storen (vs := [.int .i64 r246.th, .int .i64 r246.ve, .bool r246.rd, .bool r246.wr, .bool r246.wk]) (cs' := #[.int .i64 r246.th, .int .i64 r246.ve, .bool r246.rd, .bool r246.wr, .bool r246.wk]) Y1 rfl rfl rfl (by simp [Value.oneCell']) hN260.blk (Nat.le_of_ble_eq_true rfl) rfl ?_
     intro w263 hS264
     have hb265 := low1 hb262 hS264.grw (by omega)
     refine wpo_nil ?_
     refine Kl (fun f' w' => ∃ (p5 : Int) (r5 : Rt), (p4 ≤ p5 ∧ p5 ≤ p4 + 12) ∧ RB r5 ∧ RowsD 74 3 w.heap.size w' ms ∧ Dw.Own w' Bt 35 8 ct ms.length (ms.flatMap MTh.cells) ∧ hi ≤ w'.heap.size ∧ f' 0 = .pointer (some ⟨R, 0, none⟩) ∧ f' 2 = .slice none 0 0 ∧ f' 5 = .slice (some ⟨Bt, 0, none⟩) ms.length ct ∧ f' 8 = .int .i64 (i3 : Int) ∧ f' 9 = .int .i64 (j : Int) ∧ f' 10 = .pointer (some ⟨B258, 0, none⟩) ∧ w.grownBy w' (some R) ∧ Blk w' B258 74 #[.int .i64 r5.th, .int .i64 r5.ve, .bool r5.rd, .bool r5.wr, .bool r5.wk] ∧ Dw.Own w' Bt 35 8 ct ms.length (ms.flatMap MTh.cells) ∧ Blk w' R 97 #[.slice a bs.length c, .int .i64 p5]) ?_ ?_
     ·
      refine Xa ?_
      refine wpo_fieldAddr (o' := 0) Qx rfl rfl rfl ?_
      refine wpo_load1 (v := .int .i64 r246.th) X0 rfl (hS264.blk.cell rfl) rfl ?_
      refine wpo_gtr (q := decide (0 < r246.th)) rfl rfl rfl rfl ?_
      refine wpo_move (v := .bool (decide (0 < r246.th))) rfl rfl ?_
      rcases Xy (decide (0 < r246.th)) with h274 | h274
      ·
       have h275 := of_decide_eq_true h274
       refine Xc rfl rfl rfl h274 ?_
       refine wpo_move (v := .pointer (some ⟨R, 0, none⟩)) e237 rfl ?_
       refine Xc rfl rfl rfl h274 ?_
       have k276 := ((kR254.grown0 hN260.grw).gn hS264.grw)
       refine Xh (vs := [.pointer (some ⟨R, 0, none⟩), .int .i64 40]) Qb (Xb rfl (Xb rfl Xg)) rfl (Yn p247 40 (by omega) _ R bs _ _ _ k276 (by omega) (SlLt.low1 hs hb265 hlo) (by first | exact hb | exact fun b h => hb b (List.mem_of_mem_take h)) (by first | omega | (rw [List.length_take]; omega))) ?_
       rintro _ w282 ⟨k277, rfl, hk278, hk279, kR280, hg281⟩
       have hb283 := Xf hb265 hg281
       refine Xc rfl rfl rfl h274 ?_
       refine wpo_gtr (q := decide (0 < k277)) rfl rfl rfl rfl ?_
       refine wpo_pickt (v := .bool (decide (0 < k277))) rfl h274 rfl rfl ?_
       refine wpo_nil ?_
       refine Xq rfl (fun h284 => ?_) (fun h284 => ?_)
       ·
        have h285 := of_decide_eq_true h284
        refine Xi ?_
        refine J4 (m := 7) [[], [0], [], [2], [0, 1, 2, 3], [], [5], [0, 1, 2, 3, 4, 5, 6], [0, 1, 2, 3, 4, 5, 6, 7], [0, 1, 2, 3, 4, 5, 6, 7, 8], [0, 1, 2, 3, 4, 5, 6, 7, 8, 9]] (fun S F w' => ∃ (k325 : Int), w282.grownBy w' (some R) ∧ F 0 = .pointer (some ⟨R, 0, none⟩) ∧ F 2 = .slice none 0 0 ∧ F 5 = .slice (some ⟨Bt, 0, none⟩) ms.length ct ∧ F 8 = .int .i64 (i3 : Int) ∧ F 9 = .int .i64 (j : Int) ∧ F 10 = .pointer (some ⟨B258, 0, none⟩) ∧ (S 3 = false → Blk w' R 97 #[.slice a bs.length c, .int .i64 (p247 + 1)]) ∧ (S 3 = true → F 77 = .int .i64 k325 ∧ 0 ≤ k325 ∧ (k325 < 8 ∨ k325 = 0) ∧ Blk w' R 97 #[.slice a bs.length c, .int .i64 (p247 + 1 + 1)]) ∧ (S 4 = true → F 78 = .int .i64 (r246.th + k325)) ∧ Vals S F [(0, 74, .pointer (some ⟨B258, 0, none⟩)), (1, 75, .int .i64 r246.th), (2, 76, .pointer (some ⟨R, 0, none⟩)), (5, 79, .slice (some ⟨Bt, 0, none⟩) ms.length ct), (6, 80, .int .i64 (ms.length : Int))]) Qq (by kernel_rfl) ⟨0, X5 _, e237, e238, e239, e240, e236, rfl, fun _ => (kR280).grown0 (X5 _), Yg, Yg, U9 _⟩ ?_ ?_
        ·
         refine Xu (fun S F w332 hS hbef hcl hI => ?_) ?_
         ·
          obtain ⟨k325, hi333, e334, e335, e336, e337, e338, e339, c_old_R, c_3, c_4, hvs⟩ := hI
          have hb340 := Xf hb283 hi333
          refine wpo_fieldAddr (o' := 0) Qx e339 rfl rfl ?_
          exact wpo_nil ⟨k325, hi333, e334, e335, e336, e337, e338, e339, fun h => c_old_R h, c_3, fun h => Xt 4 hS hcl rfl h, Vals.up 0 hvs rfl rfl rfl⟩
         refine Xu (fun S F w341 hS hbef hcl hI => ?_) ?_
         ·
          obtain ⟨k325, hi342, e343, e344, e345, e346, e347, e348, c_old_R, c_3, c_4, hvs⟩ := hI
          have hb349 := Xf hb283 hi342
          have ev350 := Vals.at 0 hvs rfl (Xr 0 hbef rfl)
          have k351 := ((hS264.blk.gn hg281).gn hi342)
          refine wpo_load1 (v := .int .i64 r246.th) X0 ev350 (k351.cell rfl) rfl ?_
          exact wpo_nil ⟨k325, hi342, e343, e344, e345, e346, e347, e348, fun h => c_old_R h, c_3, fun h => Xt 4 hS hcl rfl h, Vals.up 1 hvs rfl rfl rfl⟩
         refine Xu (fun S F w352 hS hbef hcl hI => ?_) ?_
         ·
          obtain ⟨k325, hi353, e354, e355, e356, e357, e358, e359, c_old_R, c_3, c_4, hvs⟩ := hI
          have hb360 := Xf hb283 hi353
          refine wpo_move (v := .pointer (some ⟨R, 0, none⟩)) e354 rfl ?_
          exact wpo_nil ⟨k325, hi353, e354, e355, e356, e357, e358, e359, fun h => c_old_R h, fun h => Xt 3 hS hcl rfl h, fun h => Xt 4 hS hcl rfl h, Vals.up 2 hvs rfl rfl rfl⟩
         refine Xu (fun S F w361 hS hbef hcl hI => ?_) ?_
         ·
          obtain ⟨k325, hi362, e363, e364, e365, e366, e367, e368, c_old_R, c_3, c_4, hvs⟩ := hI
          have hb369 := Xf hb283 hi362
          have ev370 := Vals.at 2 hvs rfl (Xr 2 hbef rfl)
          refine Xh (vs := [.pointer (some ⟨R, 0, none⟩), .int .i64 8]) Qb (Xb ev370 (Xb rfl Xg)) rfl (Yn (p247 + 1) 8 (by omega) _ R bs _ _ _ (c_old_R hS) (by omega) (SlLt.low1 hs hb369 hlo) (by first | exact hb | exact fun b h => hb b (List.mem_of_mem_take h)) (by first | omega | (rw [List.length_take]; omega))) ?_
          rintro _ w376 ⟨k371, rfl, hk372, hk373, kR374, hg375⟩
          have hb377 := Xf hb369 hg375
          exact wpo_nil ⟨k371, (Xf hi362 hg375), e363, e364, e365, e366, e367, e368, fun h => Q7 h, fun _ => ⟨rfl, hk372, hk373, kR374⟩, fun h => Xt 4 hS hcl rfl h, Vals.keep hvs rfl⟩
         refine Xu (fun S F w378 hS hbef hcl hI => ?_) ?_
         ·
          obtain ⟨k325, hi379, e380, e381, e382, e383, e384, e385, c_old_R, c_3, c_4, hvs⟩ := hI
          have hb386 := Xf hb283 hi379
          have ev387 := Vals.at 0 hvs rfl (Xr 0 hbef rfl)
          have ev388 := Vals.at 1 hvs rfl (Xr 1 hbef rfl)
          have ev389 := Vals.at 2 hvs rfl (Xr 2 hbef rfl)
          obtain ⟨e390, hk326, hk327, ks3_R⟩ := c_3 (Xr 3 hbef rfl)
          refine wpo_add (c := r246.th + k325) ev388 e390 (by omega) (by omega) (by omega) rfl ?_
          exact wpo_nil ⟨k325, hi379, e380, e381, e382, e383, e384, e385, fun hn => Q7 ((Xr 3 hbef rfl).symm.trans hn), c_3, fun _ => rfl, Vals.keep hvs rfl⟩
         refine Xu (fun S F w391 hS hbef hcl hI => ?_) ?_
         ·
          obtain ⟨k325, hi392, e393, e394, e395, e396, e397, e398, c_old_R, c_3, c_4, hvs⟩ := hI
          have hb399 := Xf hb283 hi392
          refine wpo_move (v := .slice (some ⟨Bt, 0, none⟩) ms.length ct) e395 rfl ?_
          exact wpo_nil ⟨k325, hi392, e393, e394, e395, e396, e397, e398, fun h => c_old_R h, c_3, c_4, Vals.up 3 hvs rfl rfl rfl⟩
         refine Xu (fun S F w400 hS hbef hcl hI => ?_) ?_
         ·
          obtain ⟨k325, hi401, e402, e403, e404, e405, e406, e407, c_old_R, c_3, c_4, hvs⟩ := hI
          have hb408 := Xf hb283 hi401
          have ev409 := Vals.at 3 hvs rfl (Xr 5 hbef rfl)
          refine wpo_len (by kernel_rfl) ev409 rfl ?_
          exact wpo_nil ⟨k325, hi401, e402, e403, e404, e405, e406, e407, fun h => c_old_R h, c_3, c_4, Vals.up 4 hvs rfl rfl rfl⟩
         exact Kj
        ·
         intro S F w410 hall hI
         obtain ⟨k325, hi411, e412, e413, e414, e415, e416, e417, c_old_R, c_3, c_4, hvs⟩ := hI
         have hb418 := Xf hb283 hi411
         have ev419 := Vals.at 0 hvs rfl (hall 0 (by decide))
         have ev420 := Vals.at 1 hvs rfl (hall 1 (by decide))
         have ev421 := Vals.at 2 hvs rfl (hall 2 (by decide))
         obtain ⟨e422, hk326, hk327, ks3_R⟩ := c_3 (hall 3 (by decide))
         obtain e423 := c_4 (hall 4 (by decide))
         have ev424 := Vals.at 3 hvs rfl (hall 5 (by decide))
         have ev425 := Vals.at 4 hvs rfl (hall 6 (by decide))
         have hr426 := Int.emod_nonneg (r246.th + k325) (show (ms.length : Int) ≠ 0 by omega)
         have hr427 := Int.emod_lt_of_pos (r246.th + k325) (show 0 < (ms.length : Int) by omega)
         refine wpo_rem (c := (r246.th + k325) % (ms.length : Int)) e423 ev425 (by omega) (by omega) (by omega) rfl rfl ?_
         refine wpo_add (c := 1 + ((r246.th + k325) % (ms.length : Int))) rfl rfl (by omega) (by omega) (by omega) rfl ?_
         refine wpo_fieldAddr (o' := 0) Qx e417 rfl rfl ?_
         have k428 := ((hS264.blk.gn hg281).gn hi411)
         refine wpo_store1 (v := .int .i64 (1 + ((r246.th + k325) % (ms.length : Int)))) (cs' := #[.int .i64 (1 + ((r246.th + k325) % (ms.length : Int))), .int .i64 r246.ve, .bool r246.rd, .bool r246.wr, .bool r246.wk]) X0 rfl rfl rfl k428 (Nat.le_of_ble_eq_true rfl) rfl ?_
         intro w429 hS430
         have hb431 := low1 hb418 hS430.grw (by omega)
         refine wpo_nil ?_
         refine Xn ?_
         refine Xa ?_
         refine wpo_move (v := .slice (some ⟨Bt, 0, none⟩) ms.length ct) e414 rfl ?_
         refine wpo_fieldAddr (o' := 0) Qx e417 rfl rfl ?_
         refine wpo_load1 (v := .int .i64 (1 + ((r246.th + k325) % (ms.length : Int)))) X0 rfl (hS430.blk.cell rfl) rfl ?_
         refine wpo_sub (c := (1 + ((r246.th + k325) % (ms.length : Int))) - 1) rfl rfl (by omega) (by omega) (by omega) rfl ?_
         refine wpo_indexAddr (o' := ((1 + ((r246.th + k325) % (ms.length : Int))) - 1).toNat * 8) Qp rfl rfl (by omega) (by omega) (by omega) rfl ?_
         refine wpo_fieldAddr (o' := ((1 + ((r246.th + k325) % (ms.length : Int))) - 1).toNat * 8 + 3) Qw rfl rfl rfl ?_
         have k432 := (((((k261.grown0 hN260.grw).gn hS264.grw).gn hg281).gn hi411).gn hS430.grw)
         have hRw434 := (RowsD.ge (RowsD.lt (RowsD.lt (RowsD.ge (RowsD.low (RowsD.lt hRows hg255 (by omega)) hN260.grw) hS264.grw hH (by omega)) hg281 (by omega)) hi411 (by omega)) hS430.grw hH (by omega))
         have hve433 := (RowsD.at hRw434 (show ((1 + ((r246.th + k325) % (ms.length : Int))) - 1).toNat < ms.length by omega)).ve
         refine wpo_load1 (v := .int .i64 ((mAt ms (((1 + ((r246.th + k325) % (ms.length : Int))) - 1).toNat)).t.ve)) X0 rfl ((Own.range Ym k432 (Xz (show ((1 + ((r246.th + k325) % (ms.length : Int))) - 1).toNat < ms.length by omega))) 3 _ rfl) rfl ?_
         refine wpo_fieldAddr (o' := 1) J8 e417 rfl rfl ?_
         refine wpo_store1 (v := .int .i64 ((mAt ms (((1 + ((r246.th + k325) % (ms.length : Int))) - 1).toNat)).t.ve)) (cs' := #[.int .i64 (1 + ((r246.th + k325) % (ms.length : Int))), .int .i64 ((mAt ms (((1 + ((r246.th + k325) % (ms.length : Int))) - 1).toNat)).t.ve), .bool r246.rd, .bool r246.wr, .bool r246.wk]) X0 rfl rfl rfl hS430.blk (Nat.le_of_ble_eq_true rfl) rfl ?_
         intro w435 hS436
         have hb437 := low1 hb431 hS436.grw (by omega)
         refine wpo_nil ?_
         refine Xa ?_
         refine wpo_fieldAddr (o' := 1) J8 e417 rfl rfl ?_
         refine wpo_load1 (v := .int .i64 ((mAt ms (((1 + ((r246.th + k325) % (ms.length : Int))) - 1).toNat)).t.ve)) X0 rfl (hS436.blk.cell rfl) rfl ?_
         refine wpo_gtr (q := decide (0 < (mAt ms (((1 + ((r246.th + k325) % (ms.length : Int))) - 1).toNat)).t.ve)) rfl rfl rfl rfl ?_
         refine wpo_move (v := .bool (decide (0 < (mAt ms (((1 + ((r246.th + k325) % (ms.length : Int))) - 1).toNat)).t.ve))) rfl rfl ?_
         rcases Xy (decide (0 < (mAt ms (((1 + ((r246.th + k325) % (ms.length : Int))) - 1).toNat)).t.ve)) with h446 | h446
         ·
          have h447 := of_decide_eq_true h446
          refine Xc rfl rfl rfl h446 ?_
          refine wpo_move (v := .pointer (some ⟨R, 0, none⟩)) e412 rfl ?_
          refine Xc rfl rfl rfl h446 ?_
          have k448 := ((ks3_R.gn hS430.grw).gn hS436.grw)
          refine Xh (vs := [.pointer (some ⟨R, 0, none⟩), .int .i64 5]) Qb (Xb rfl (Xb rfl Xg)) rfl (Yn (p247 + 1 + 1) 5 (by omega) _ R bs _ _ _ k448 (by omega) (SlLt.low1 hs hb437 hlo) (by first | exact hb | exact fun b h => hb b (List.mem_of_mem_take h)) (by first | omega | (rw [List.length_take]; omega))) ?_
          rintro _ w454 ⟨k449, rfl, hk450, hk451, kR452, hg453⟩
          have hb455 := Xf hb437 hg453
          refine Xc rfl rfl rfl h446 ?_
          refine wpo_eql (q := decide (k449 = 0)) rfl rfl rfl rfl ?_
          refine wpo_pickt (v := .bool (decide (k449 = 0))) rfl h446 rfl rfl ?_
          refine wpo_nil ?_
          refine Xq rfl (fun h456 => ?_) (fun h456 => ?_)
          ·
           have h457 := of_decide_eq_true h456
           refine Xl ?_
           refine wpo_fieldAddr (o' := 1) J8 e417 rfl rfl ?_
           have k458 := (hS436.blk.gn hg453)
           refine wpo_load1 (v := .int .i64 ((mAt ms (((1 + ((r246.th + k325) % (ms.length : Int))) - 1).toNat)).t.ve)) X0 rfl (k458.cell rfl) rfl ?_
           refine wpo_sub (c := ((mAt ms (((1 + ((r246.th + k325) % (ms.length : Int))) - 1).toNat)).t.ve) - 1) rfl rfl (by omega) (by omega) (by omega) rfl ?_
           refine wpo_fieldAddr (o' := 1) J8 e417 rfl rfl ?_
           refine wpo_store1 (v := .int .i64 (((mAt ms (((1 + ((r246.th + k325) % (ms.length : Int))) - 1).toNat)).t.ve) - 1)) (cs' := #[.int .i64 (1 + ((r246.th + k325) % (ms.length : Int))), .int .i64 (((mAt ms (((1 + ((r246.th + k325) % (ms.length : Int))) - 1).toNat)).t.ve) - 1), .bool r246.rd, .bool r246.wr, .bool r246.wk]) X0 rfl rfl rfl k458 (Nat.le_of_ble_eq_true rfl) rfl ?_
           intro w459 hS460
           have hb461 := low1 hb455 hS460.grw (by omega)
           refine wpo_nil ?_
           refine Xn ?_
           have hRw462 := (RowsD.ge (RowsD.lt (RowsD.ge hRw434 hS436.grw hH (by omega)) hg453 (by omega)) hS460.grw hH (by omega))
           have k463 := (((k432.gn hS436.grw).gn hg453).gn hS460.grw)
           have k464 := (kR452.gn hS460.grw)
           exact ⟨(p247 + 1 + 1 + 1), (⟨1 + ((r246.th + k325) % (ms.length : Int)), ((mAt ms (((1 + ((r246.th + k325) % (ms.length : Int))) - 1).toNat)).t.ve) - 1, r246.rd, r246.wr, r246.wk⟩ : Rt), (by omega), ⟨show (-1 : Int) ≤ 1 + ((r246.th + k325) % (ms.length : Int)) by omega, show 1 + ((r246.th + k325) % (ms.length : Int)) ≤ (9 : Int) by omega, show (-1 : Int) ≤ ((mAt ms (((1 + ((r246.th + k325) % (ms.length : Int))) - 1).toNat)).t.ve) - 1 by omega, show ((mAt ms (((1 + ((r246.th + k325) % (ms.length : Int))) - 1).toNat)).t.ve) - 1 ≤ (9 : Int) by omega⟩, hRw462, k463, (Nat.le_trans (Nat.le_trans (Nat.le_trans (Nat.le_trans (Nat.le_trans (Nat.le_trans (Nat.le_trans (Nat.le_trans (Nat.le_trans hhs hg255.size) hN260.grw.size) hS264.grw.size) hg281.size) hi411.size) hS430.grw.size) hS436.grw.size) hg453.size) hS460.grw.size), e412, e413, e414, e415, e416, e417, hb461, hS460.blk, k463, k464⟩
          ·
           have h465 := of_decide_eq_false h456
           refine Xk ?_
           refine Xn ?_
           have hRw466 := (RowsD.lt (RowsD.ge hRw434 hS436.grw hH (by omega)) hg453 (by omega))
           have k467 := ((k432.gn hS436.grw).gn hg453)
           have k468 := (hS436.blk.gn hg453)
           exact ⟨(p247 + 1 + 1 + 1), (⟨1 + ((r246.th + k325) % (ms.length : Int)), (mAt ms (((1 + ((r246.th + k325) % (ms.length : Int))) - 1).toNat)).t.ve, r246.rd, r246.wr, r246.wk⟩ : Rt), (by omega), ⟨show (-1 : Int) ≤ 1 + ((r246.th + k325) % (ms.length : Int)) by omega, show 1 + ((r246.th + k325) % (ms.length : Int)) ≤ (9 : Int) by omega, show (-1 : Int) ≤ (mAt ms (((1 + ((r246.th + k325) % (ms.length : Int))) - 1).toNat)).t.ve by omega, show (mAt ms (((1 + ((r246.th + k325) % (ms.length : Int))) - 1).toNat)).t.ve ≤ (9 : Int) by omega⟩, hRw466, k467, (Nat.le_trans (Nat.le_trans (Nat.le_trans (Nat.le_trans (Nat.le_trans (Nat.le_trans (Nat.le_trans (Nat.le_trans hhs hg255.size) hN260.grw.size) hS264.grw.size) hg281.size) hi411.size) hS430.grw.size) hS436.grw.size) hg453.size), e412, e413, e414, e415, e416, e417, hb455, k468, k467, kR452⟩
         ·
          have h469 := of_decide_eq_false h446
          iterate 3 refine Xe rfl rfl rfl h446 rfl ?_
          refine wpo_pickf (v := .bool false) rfl h446 rfl rfl ?_
          refine wpo_nil ?_
          refine Ya rfl rfl ?_
          refine Xk ?_
          refine Xn ?_
          have hRw470 := (RowsD.ge hRw434 hS436.grw hH (by omega))
          have k471 := (k432.gn hS436.grw)
          have k472 := ((ks3_R.gn hS430.grw).gn hS436.grw)
          exact ⟨(p247 + 1 + 1), (⟨1 + ((r246.th + k325) % (ms.length : Int)), (mAt ms (((1 + ((r246.th + k325) % (ms.length : Int))) - 1).toNat)).t.ve, r246.rd, r246.wr, r246.wk⟩ : Rt), (by omega), ⟨show (-1 : Int) ≤ 1 + ((r246.th + k325) % (ms.length : Int)) by omega, show 1 + ((r246.th + k325) % (ms.length : Int)) ≤ (9 : Int) by omega, show (-1 : Int) ≤ (mAt ms (((1 + ((r246.th + k325) % (ms.length : Int))) - 1).toNat)).t.ve by omega, show (mAt ms (((1 + ((r246.th + k325) % (ms.length : Int))) - 1).toNat)).t.ve ≤ (9 : Int) by omega⟩, hRw470, k471, (Nat.le_trans (Nat.le_trans (Nat.le_trans (Nat.le_trans (Nat.le_trans (Nat.le_trans (Nat.le_trans hhs hg255.size) hN260.grw.size) hS264.grw.size) hg281.size) hi411.size) hS430.grw.size) hS436.grw.size), e412, e413, e414, e415, e416, e417, hb437, hS436.blk, k471, k472⟩
       ·
        have h473 := of_decide_eq_false h284
        refine Xk ?_
        refine Xn ?_
        have hRw474 := (RowsD.lt (RowsD.ge (RowsD.low (RowsD.lt hRows hg255 (by omega)) hN260.grw) hS264.grw hH (by omega)) hg281 (by omega))
        have k475 := (((k261.grown0 hN260.grw).gn hS264.grw).gn hg281)
        have k476 := (hS264.blk.gn hg281)
        exact ⟨(p247 + 1), r246, (by omega), ⟨show (-1 : Int) ≤ r246.th by omega, show r246.th ≤ (9 : Int) by omega, show (-1 : Int) ≤ r246.ve by omega, show r246.ve ≤ (9 : Int) by omega⟩, hRw474, k475, (Nat.le_trans (Nat.le_trans (Nat.le_trans (Nat.le_trans hhs hg255.size) hN260.grw.size) hS264.grw.size) hg281.size), e237, e238, e239, e240, e236, rfl, hb283, k476, k475, kR280⟩
      ·
       have h477 := of_decide_eq_false h274
       iterate 3 refine Xe rfl rfl rfl h274 rfl ?_
       refine wpo_pickf (v := .bool false) rfl h274 rfl rfl ?_
       refine wpo_nil ?_
       refine Ya rfl rfl ?_
       refine Xk ?_
       refine Xn ?_
       have hRw478 := (RowsD.ge (RowsD.low (RowsD.lt hRows hg255 (by omega)) hN260.grw) hS264.grw hH (by omega))
       have k479 := ((k261.grown0 hN260.grw).gn hS264.grw)
       have k480 := ((kR254.grown0 hN260.grw).gn hS264.grw)
       exact ⟨p247, r246, (by omega), ⟨show (-1 : Int) ≤ r246.th by omega, show r246.th ≤ (9 : Int) by omega, show (-1 : Int) ≤ r246.ve by omega, show r246.ve ≤ (9 : Int) by omega⟩, hRw478, k479, (Nat.le_trans (Nat.le_trans (Nat.le_trans hhs hg255.size) hN260.grw.size) hS264.grw.size), e237, e238, e239, e240, e236, rfl, hb265, hS264.blk, k479, k480⟩
     ·
      rintro f481 w482 ⟨p5, r5, hpp5, hr5, hRows, hOt, hhs, e484, e485, e486, e487, e488, e489, hb483, k490, k491, k492⟩
      have hr5a := hr5.1; have hr5b := hr5.2.1; have hr5c := hr5.2.2.1; have hr5d := hr5.2.2.2
      refine Xi ?_
      obtain ⟨S524, xs525, hSa526, hSl527, hSO528, hSn529⟩ := RowD.slot (RowsD.at hRows (show i3 < ms.length by omega)) (by omega)
      have hSh530 := hH _ (List.mem_of_getElem? (Xz (show i3 < ms.length by omega))) _ (Or.inl hSa526)
      refine Qh (m := 7) (vals := [(104, .slice (some ⟨Bt, 0, none⟩) ms.length ct), (105, .int .i64 (i3 : Int)), (106, .pointer (some ⟨Bt, i3 * 8, none⟩)), (107, .pointer (some ⟨Bt, i3 * 8 + 5, none⟩)), (108, .slice ((mAt ms i3).sa) ((mAt ms i3).t.slots.length) ((mAt ms i3).sc)), (109, .int .i64 (j : Int)), (110, .agg #[.int .i64 r5.th, .int .i64 r5.ve, .bool r5.rd, .bool r5.wr, .bool r5.wk])]) (fun w' => w482.grownBy w' none) Qq (by kernel_rfl) (X5 _) ?_ ?_
      ·
       refine Xd rfl (fun w532 hi533 => ?_) ?_
       ·
        have hb534 := low0 hb483 hi533
        refine wpo_move (v := .slice (some ⟨Bt, 0, none⟩) ms.length ct) e486 rfl ?_
        exact wpo_nil ⟨rfl, hi533⟩
       refine Xd rfl (fun w535 hi536 => ?_) ?_
       ·
        have hb537 := low0 hb483 hi536
        refine wpo_move (v := .int .i64 (i3 : Int)) e487 rfl ?_
        exact wpo_nil ⟨rfl, hi536⟩
       refine Xd rfl (fun w538 hi539 => ?_) ?_
       ·
        have hb540 := low0 hb483 hi539
        refine wpo_indexAddr (o' := i3 * 8) Qp rfl rfl (by omega) (by omega) (by omega) rfl ?_
        exact wpo_nil ⟨rfl, hi539⟩
       refine Xd rfl (fun w541 hi542 => ?_) ?_
       ·
        have hb543 := low0 hb483 hi542
        refine wpo_fieldAddr (o' := i3 * 8 + 5) Y2 rfl rfl rfl ?_
        exact wpo_nil ⟨rfl, hi542⟩
       refine Xd rfl (fun w544 hi545 => ?_) ?_
       ·
        have hb546 := low0 hb483 hi545
        have k547 := (hOt.grown0 hi545)
        have hRw549 := (RowsD.low hRows hi545)
        have hve548 := (RowsD.at hRw549 (show i3 < ms.length by omega)).ve
        refine wpo_load1 (v := .slice ((mAt ms i3).sa) ((mAt ms i3).t.slots.length) ((mAt ms i3).sc)) Jc rfl ((Own.range Ym k547 (Xz (show i3 < ms.length by omega))) 5 _ rfl) rfl ?_
        exact wpo_nil ⟨rfl, hi545⟩
       refine Xd rfl (fun w550 hi551 => ?_) ?_
       ·
        have hb552 := low0 hb483 hi551
        refine wpo_move (v := .int .i64 (j : Int)) e488 rfl ?_
        exact wpo_nil ⟨rfl, hi551⟩
       refine Xd rfl (fun w553 hi554 => ?_) ?_
       ·
        have hb555 := low0 hb483 hi554
        have k556 := (k490.grown0 hi554)
        refine wpo_loadn (vs := [.int .i64 r5.th, .int .i64 r5.ve, .bool r5.rd, .bool r5.wr, .bool r5.wk]) Y1 e489 rfl (k556.rangeL 0 5 rfl) rfl ?_
        exact wpo_nil ⟨rfl, hi554⟩
       exact Q0
      ·
       intro w557 hi558
       have hb559 := low0 hb483 hi558
       refine X2 We rfl rfl hSa526 (Nat.zero_add _) (by omega) (by omega) rfl ?_
       have hSO560 := (hSO528.grown0 hi558)
       have hRB564 : RB r5 := ⟨show (-1 : Int) ≤ r5.th by omega, show r5.th ≤ (9 : Int) by omega, show (-1 : Int) ≤ r5.ve by omega, show r5.ve ≤ (9 : Int) by omega⟩
       have k565 := (k490.grown0 hi558)
       have k567 := (hOt.grown0 hi558)
       have hne566 := R6 k567 hSO560 (by decide)
       have k568 := (k492.grown0 hi558)
       have hRw569 := (RowsD.low hRows hi558)
       refine wpo_storeD (z' := r5) Y1 rfl rfl hSO560 (by omega) rfl ?_
       intro w561 hp562 hg563
       have hb570 := low1 hb559 hg563 (by omega)
       refine wpo_nil ?_
       refine Xn ?_
       refine Xa ?_
       have k587 := (k565.gn hg563)
       refine wpo_loadn (vs := [.int .i64 r5.th, .int .i64 r5.ve, .bool r5.rd, .bool r5.wr, .bool r5.wk]) Y1 e489 rfl (k587.rangeL 0 5 rfl) rfl ?_
       refine Xh (vs := [.agg #[.int .i64 r5.th, .int .i64 r5.ve, .bool r5.rd, .bool r5.wr, .bool r5.wk]]) Et (Xb rfl Xg) rfl (Hu r5 _) ?_
       rintro _ w588 ⟨rfl, hg589⟩
       have hb590 := low0 hb570 hg589
       refine wpo_not (b' := !rightOk r5) rfl rfl rfl ?_
       refine wpo_move (v := .bool (!rightOk r5)) rfl rfl ?_
       rcases Xy (!rightOk r5) with h591 | h591
       ·
        have h592 := Q3 h591
        refine Xc rfl rfl rfl h591 ?_
        refine wpo_move (v := .pointer (some ⟨R, 0, none⟩)) e484 rfl ?_
        refine Xc rfl rfl rfl h591 ?_
        have k593 := ((k568.gn hg563).grown0 hg589)
        refine Xh (vs := [.pointer (some ⟨R, 0, none⟩), .int .i64 3]) Qb (Xb rfl (Xb rfl Xg)) rfl (Yn p5 3 (by omega) _ R bs _ _ _ k593 (by omega) (SlLt.low1 hs hb590 hlo) (by first | exact hb | exact fun b h => hb b (List.mem_of_mem_take h)) (by first | omega | (rw [List.length_take]; omega))) ?_
        rintro _ w599 ⟨k594, rfl, hk595, hk596, kR597, hg598⟩
        have hb600 := Xf hb590 hg598
        refine Xc rfl rfl rfl h591 ?_
        refine wpo_gtr (q := decide (0 < k594)) rfl rfl rfl rfl ?_
        refine wpo_pickt (v := .bool (decide (0 < k594))) rfl h591 rfl rfl ?_
        refine wpo_nil ?_
        refine Xq rfl (fun h601 => ?_) (fun h601 => ?_)
        ·
         have h602 := of_decide_eq_true h601
         refine Xl ?_
         refine wpo_move (v := .slice (some ⟨Bt, 0, none⟩) ms.length ct) e486 rfl ?_
         refine wpo_move (v := .int .i64 (i3 : Int)) e487 rfl ?_
         refine wpo_indexAddr (o' := i3 * 8) Qp rfl rfl (by omega) (by omega) (by omega) rfl ?_
         refine wpo_fieldAddr (o' := i3 * 8 + 5) Y2 rfl rfl rfl ?_
         have k603 := (((k567.gn hg563).grown0 hg589).gn hg598)
         have hRw605 := (RowsD.lt (RowsD.low (RowsD.put hRw569 hp562 hg563 hRB564 hSO560 (by decide)) hg589) hg598 (by omega))
         have hve604 := (RowsD.at hRw605 (show i3 < ms.length by omega)).ve
         refine wpo_load1 (v := .slice ((mAt ms i3).sa) ((mAt ms i3).t.slots.length) ((mAt ms i3).sc)) Jc rfl ((Own.range Ym k603 (Xz (show i3 < ms.length by omega))) 5 _ rfl) rfl ?_
         refine wpo_move (v := .int .i64 (j : Int)) e488 rfl ?_
         refine wpo_build (ps := []) (v := .agg #[.int .i64 0, .int .i64 0, .bool false, .bool false, .bool false]) Xw (fun _ => by kernel_rfl) rfl ?_
         obtain ⟨S606, xs607, hSa608, hSl609, hSO610, hSn611⟩ := RowD.slot (RowsD.at hRw605 (show i3 < ms.length by omega)) (by omega)
         have hSh612 := hH _ (List.mem_of_getElem? (Xz (show i3 < ms.length by omega))) _ (Or.inl hSa608)
         refine X2 We rfl rfl hSa608 (Nat.zero_add _) (by omega) (by omega) rfl ?_
         have hSO613 := hSO610
         have hRB617 : RB (⟨0, 0, false, false, false⟩ : Rt) := ⟨show (-1 : Int) ≤ 0 by omega, show 0 ≤ (9 : Int) by omega, show (-1 : Int) ≤ 0 by omega, show 0 ≤ (9 : Int) by omega⟩
         have k618 := ((k587.grown0 hg589).gn hg598)
         have hne619 := R6 k603 hSO613 (by decide)
         refine wpo_storeD (z' := (⟨0, 0, false, false, false⟩ : Rt)) Y1 rfl rfl hSO613 (by omega) rfl ?_
         intro w614 hp615 hg616
         have hb620 := low1 hb600 hg616 (by omega)
         refine wpo_nil ?_
         refine Yy ?_
         refine Xn ?_
         refine Xl ?_
         refine wpo_move (v := .int .i64 (j : Int)) e488 rfl ?_
         refine wpo_add (c := (j : Int) + 1) rfl rfl (by omega) (by omega) (by omega) rfl ?_
         refine wpo_assign (v := .int .i64 ((j : Int) + 1)) rfl rfl ?_
         refine wpo_nil ?_
         refine Xn ?_
         have hRw621 := (RowsD.put hRw605 hp615 hg616 hRB617 hSO613 (by decide))
         have k622 := (k603.gn hg616)
         have k623 := (kR597.gn hg616)
         exact ⟨(mAt ms i3).t.slots.length - (j + 1), by omega, (j + 1), (p5 + 1), rfl, (by omega), (by omega), hRw621, k622, (Nat.le_trans (Nat.le_trans (Nat.le_trans (Nat.le_trans (Nat.le_trans hhs hi558.size) hg563.size) hg589.size) hg598.size) hg616.size), rfl, e484, e485, e486, e487, hb620, k622, k623⟩
        ·
         have h624 := of_decide_eq_false h601
         refine Xk ?_
         refine Yy ?_
         refine Xn ?_
         refine Xl ?_
         refine wpo_move (v := .int .i64 (j : Int)) e488 rfl ?_
         refine wpo_add (c := (j : Int) + 1) rfl rfl (by omega) (by omega) (by omega) rfl ?_
         refine wpo_assign (v := .int .i64 ((j : Int) + 1)) rfl rfl ?_
         refine wpo_nil ?_
         refine Xn ?_
         have hRw625 := (RowsD.lt (RowsD.low (RowsD.put hRw569 hp562 hg563 hRB564 hSO560 (by decide)) hg589) hg598 (by omega))
         have k626 := (((k567.gn hg563).grown0 hg589).gn hg598)
         exact ⟨(mAt ms i3).t.slots.length - (j + 1), by omega, (j + 1), (p5 + 1), rfl, (by omega), (by omega), hRw625, k626, (Nat.le_trans (Nat.le_trans (Nat.le_trans (Nat.le_trans hhs hi558.size) hg563.size) hg589.size) hg598.size), rfl, e484, e485, e486, e487, hb600, k626, kR597⟩
       ·
        have h627 := Y9 h591
        iterate 3 refine Xe rfl rfl rfl h591 rfl ?_
        refine wpo_pickf (v := .bool false) rfl h591 rfl rfl ?_
        refine wpo_nil ?_
        refine Ya rfl rfl ?_
        refine Xk ?_
        refine Yy ?_
        refine Xn ?_
        refine Xl ?_
        refine wpo_move (v := .int .i64 (j : Int)) e488 rfl ?_
        refine wpo_add (c := (j : Int) + 1) rfl rfl (by omega) (by omega) (by omega) rfl ?_
        refine wpo_assign (v := .int .i64 ((j : Int) + 1)) rfl rfl ?_
        refine wpo_nil ?_
        refine Xn ?_
        have hRw628 := (RowsD.low (RowsD.put hRw569 hp562 hg563 hRB564 hSO560 (by decide)) hg589)
        have k629 := ((k567.gn hg563).grown0 hg589)
        have k630 := ((k568.gn hg563).grown0 hg589)
        exact ⟨(mAt ms i3).t.slots.length - (j + 1), by omega, (j + 1), p5, rfl, (by omega), (by omega), hRw628, k629, (Nat.le_trans (Nat.le_trans (Nat.le_trans hhs hi558.size) hg563.size) hg589.size), rfl, e484, e485, e486, e487, hb590, k629, k630⟩
    ·
     have h631 := of_decide_eq_false h244
     refine Yj ?_
     refine Yt ?_
     refine Yt ?_
     refine Jf ?_
     refine Yy ?_
     refine Xn ?_
     refine Xl ?_
     refine wpo_move (v := .int .i64 (i3 : Int)) e240 rfl ?_
     refine wpo_add (c := (i3 : Int) + 1) rfl rfl (by omega) (by omega) (by omega) rfl ?_
     refine wpo_assign (v := .int .i64 ((i3 : Int) + 1)) rfl rfl ?_
     refine wpo_nil ?_
     refine Xn ?_
     exact ⟨ms.length - (i3 + 1), by omega, (i3 + 1), p4, rfl, (by omega), (by omega), hRows, hOt, hhs, rfl, e237, e238, e239, hb234, hOt, k242⟩
   ·
    have h632 := of_decide_eq_false h230
    refine Yj ?_
    refine Yt ?_
    refine Yt ?_
    refine Jf ?_
    refine Xn ?_
    refine Xi ?_
    refine Xa ?_
    refine wpo_move (v := .pointer (some ⟨R, 0, none⟩)) e225 rfl ?_
    refine Xh (vs := [.pointer (some ⟨R, 0, none⟩), .int .i64 30]) Qb (Xb rfl (Xb rfl Xg)) rfl (Yn p3 30 (by omega) _ R bs _ _ _ k229 (by omega) (SlLt.low1 hs hb222 hlo) (by first | exact hb | exact fun b h => hb b (List.mem_of_mem_take h)) (by first | omega | (rw [List.length_take]; omega))) ?_
    rintro _ w638 ⟨k633, rfl, hk634, hk635, kR636, hg637⟩
    have hb639 := Xf hb222 hg637
    refine wpo_eql (q := decide (k633 = 0)) rfl rfl rfl rfl ?_
    refine wpo_nil ?_
    refine Xq rfl (fun h640 => ?_) (fun h640 => ?_)
    ·
     have h641 := of_decide_eq_true h640
     refine Xl ?_
     refine wpo_move (v := .slice (some ⟨Bt, 0, none⟩) ms.length ct) e227 rfl ?_
     refine wpo_move (v := .pointer (some ⟨R, 0, none⟩)) e225 rfl ?_
     refine wpo_move (v := .slice (some ⟨Bt, 0, none⟩) ms.length ct) e227 rfl ?_
     refine wpo_len (by kernel_rfl) rfl rfl ?_
     refine Xh (vs := [.pointer (some ⟨R, 0, none⟩), .int .i64 (ms.length : Int)]) Qb (Xb rfl (Xb rfl Xg)) rfl (Yn (p3 + 1) (ms.length : Int) (by omega) _ R bs _ _ _ kR636 (by omega) (SlLt.low1 hs hb639 hlo) (by first | exact hb | exact fun b h => hb b (List.mem_of_mem_take h)) (by first | omega | (rw [List.length_take]; omega))) ?_
     rintro _ w647 ⟨k642, rfl, hk643, hk644, kR645, hg646⟩
     have hb648 := Xf hb639 hg646
     refine wpo_move (v := .pointer (some ⟨R, 0, none⟩)) e225 rfl ?_
     refine Xh (vs := [.pointer (some ⟨R, 0, none⟩), .int .i64 5]) Qb (Xb rfl (Xb rfl Xg)) rfl (Yn (p3 + 1 + 1) 5 (by omega) _ R bs _ _ _ kR645 (by omega) (SlLt.low1 hs hb648 hlo) (by first | exact hb | exact fun b h => hb b (List.mem_of_mem_take h)) (by first | omega | (rw [List.length_take]; omega))) ?_
     rintro _ w654 ⟨k649, rfl, hk650, hk651, kR652, hg653⟩
     have hb655 := Xf hb648 hg653
     refine wpo_add (c := 1 + k649) rfl rfl (by omega) (by omega) (by omega) rfl ?_
     refine wpo_indexAddr (o' := (k642).toNat * 8) Qp rfl rfl (by omega) (by omega) (by omega) rfl ?_
     refine wpo_fieldAddr (o' := (k642).toNat * 8) X9 rfl rfl rfl ?_
     have k656 := (((hOt.gn hg637).gn hg646).gn hg653)
     have hRw661 := (RowsD.lt (RowsD.lt (RowsD.lt hRows hg637 (by omega)) hg646 (by omega)) hg653 (by omega))
     have hve660 := (RowsD.at hRw661 (show (k642).toNat < ms.length by omega)).ve
     refine wpo_store1O (g := MTh.cells) (j := 0) (z := (mAt ms ((k642).toNat))) (z' := (⟨⟨1 + k649, ((mAt ms ((k642).toNat)).t.lab), (mAt ms ((k642).toNat)).t.ve, (mAt ms ((k642).toNat)).t.num, (mAt ms ((k642).toNat)).t.slots, (mAt ms ((k642).toNat)).t.queue, (mAt ms ((k642).toNat)).t.to⟩, (mAt ms ((k642).toNat)).sa, (mAt ms ((k642).toNat)).sc, (mAt ms ((k642).toNat)).qa, (mAt ms ((k642).toNat)).qc⟩ : MTh)) (v := .int .i64 (1 + k649)) X0 rfl rfl rfl Ym k656 (Xz (show (k642).toNat < ms.length by omega)) (by omega) rfl rfl ?_
     intro w657 hO658 hg659
     have hb662 := low1 hb655 hg659 (by omega)
     refine wpo_nil ?_
     refine Xn ?_
     refine Xa ?_
     refine wpo_move (v := .slice (some ⟨Bt, 0, none⟩) ms.length ct) e227 rfl ?_
     refine wpo_assign (v := .slice (some ⟨Bt, 0, none⟩) ms.length ct) rfl rfl ?_
     refine wpo_nil ?_
     refine Xj ?_
     have hRw663 := (RowsD.typ hRw661 hg659 k656 (by decide) (by decide))
     obtain ⟨ms9, hc9, hx9, hs9⟩ := RowsD.tab _ (RowsD.setk (i := (k642).toNat) (m' := (⟨⟨1 + k649, ((mAt ms ((k642).toNat)).t.lab), (mAt ms ((k642).toNat)).t.ve, (mAt ms ((k642).toNat)).t.num, (mAt ms ((k642).toNat)).t.slots, (mAt ms ((k642).toNat)).t.queue, (mAt ms ((k642).toNat)).t.to⟩, (mAt ms ((k642).toNat)).sa, (mAt ms ((k642).toNat)).sc, (mAt ms ((k642).toNat)).qa, (mAt ms ((k642).toNat)).qc⟩ : MTh)) hRw663 (by omega) ⟨rfl, rfl, rfl⟩ ⟨rfl, rfl, rfl⟩ rfl)
     have hl9 := congrArg List.length hc9
     simp only [List.length_map, List.length_set] at hl9
     have ho9 := hO658
     rw [← P5 hc9] at ho9
     have k664 := (kR652.gn hg659)
     refine ⟨.slice (some ⟨Bt, 0, none⟩) ms.length ct, res1 rfl rfl, Bt, ct, ms9, (p3 + 1 + 1 + 1), ?_, ⟨SlG.own Ym ho9 hlBt, hx9⟩, hs9, by omega, by omega, by omega, k664, hb662⟩
     show Value.slice _ _ _ = Value.slice _ _ _
     congr 1; first | omega | (simp only [List.length_set]; omega)
    ·
     have h665 := of_decide_eq_false h640
     refine Xk ?_
     refine Xn ?_
     refine Xa ?_
     refine wpo_move (v := .slice (some ⟨Bt, 0, none⟩) ms.length ct) e227 rfl ?_
     refine wpo_assign (v := .slice (some ⟨Bt, 0, none⟩) ms.length ct) rfl rfl ?_
     refine wpo_nil ?_
     refine Xj ?_
     have hRw666 := (RowsD.lt hRows hg637 (by omega))
     have k667 := (hOt.gn hg637)
     obtain ⟨ms9, hc9, hx9, hs9⟩ := RowsD.tab _ hRw666
     have hl9 := congrArg List.length hc9
     simp only [List.length_map, List.length_set] at hl9
     have ho9 := k667
     rw [← P5 hc9] at ho9
     refine ⟨.slice (some ⟨Bt, 0, none⟩) ms.length ct, res1 rfl rfl, Bt, ct, ms9, (p3 + 1), ?_, ⟨SlG.own Ym ho9 hlBt, hx9⟩, hs9, by omega, by omega, by omega, kR636, hb639⟩
     show Value.slice _ _ _ = Value.slice _ _ _
     congr 1; first | omega | (simp only [List.length_set]; omega)
theorem Tt [Comp] (p : Int) (hp : 0 ≤ p ∧ p ≤ 999999980000) (lo R : Nat) (bs : List Int) (a : Option Addr) (c : Nat) (w : World) (hR : Blk w R 97 #[.slice a bs.length c, .int .i64 p]) (hlo : lo ≤ R) (hs : SlLt lo w a 1 (bs.map bcell)) (hb : ∀ b ∈ bs, 0 ≤ b ∧ b ≤ 255) (hn : bs.length ≤ 1048576) : CallsR Try.prog 35 #[.pointer (some ⟨R, 0, none⟩)] w (fun v w' => ∃ (B cap : Nat) (ms : List MTh) (p' : Int), v = .slice (some ⟨B, 0, none⟩) ms.length cap ∧ TabG w.heap.size w' (some ⟨B, 0, none⟩) ms ∧ Small ms ∧ (3 ≤ ms.length ∧ ms.length ≤ 8) ∧ p ≤ p' ∧ p' ≤ p + 4000 ∧ Blk w' R 97 #[.slice a bs.length c, .int .i64 p'] ∧ w.grownBy w' (some R)) := by
 refine Xp (n := 24) Try.func35 rfl Try.ntmps35 rfl ?_
 have hb0 := World.grownBy.refl w (some R)
 have hRlt := hR.lt
 refine Xa ?_
 refine wpo_assign (v := .slice none 0 0) rfl rfl ?_
 refine wpo_nil ?_
 refine Xa ?_
 refine wpo_move (v := .pointer (some ⟨R, 0, none⟩)) rfl rfl ?_
 refine Xh (vs := [.pointer (some ⟨R, 0, none⟩)]) Es (Xb rfl Xg) rfl (Hj p (by omega) _ R bs _ _ _ hR (by omega) (SlLt.low1 hs hb0 hlo) (by first | exact hb | exact fun b h => hb b (List.mem_of_mem_take h)) (by first | omega | (rw [List.length_take]; omega))) ?_
 rintro _ w112 ⟨B101, cap102, ms103, p104, rfl, hTG105, hTS106, hTn107, hp108, hp109, kR110, hg111⟩
 have hb113 := Xf hb0 hg111
 have hTG114 := TabG.mono hTG105 hb0.size
 have hTl115 := hTS106.len
 refine wpo_assign (v := .slice (some ⟨B101, 0, none⟩) ms103.length cap102) rfl rfl ?_
 refine wpo_nil ?_
 refine Xi ?_
 refine Xa ?_
 refine wpo_assign (v := .int .i64 0) rfl rfl ?_
 refine wpo_nil ?_
 refine Xv ?_
 refine Ye (fun mm f' w' => ∃ (i : Nat) (p1 : Int) (B : Nat) (cap : Nat) (ms : List MTh), mm = 4 - i ∧ i ≤ 4 ∧ (p ≤ p1 ∧ p1 ≤ p + 600 + 601 * (i : Int)) ∧ TabG w.heap.size w' (some ⟨B, 0, none⟩) ms ∧ Small ms ∧ (3 ≤ ms.length ∧ ms.length ≤ 8) ∧ f' 3 = .slice (some ⟨B, 0, none⟩) ms.length cap ∧ f' 4 = .int .i64 (i : Int) ∧ f' 0 = .pointer (some ⟨R, 0, none⟩) ∧ f' 2 = .slice none 0 0 ∧ w.grownBy w' (some R) ∧ Blk w' R 97 #[.slice a bs.length c, .int .i64 p1]) (4 - 0) ⟨0, p104, B101, cap102, ms103, rfl, (Nat.zero_le _), (by omega), hTG114, hTS106, hTn107, rfl, rfl, rfl, rfl, hb113, kR110⟩ ?_
 rintro mm f116 w117 ⟨i, p1, B, cap, ms, hm119, hi, hpp, hTG, hTS, hTn, e120, e121, e122, e123, hb118, k124⟩
 have hTl125 := hTS.len
 refine Xi ?_
 refine Xa ?_
 refine wpo_move (v := .int .i64 (i : Int)) e121 rfl ?_
 refine wpo_lss (q := decide ((i : Int) < 4)) rfl rfl rfl rfl ?_
 refine wpo_move (v := .bool (decide ((i : Int) < 4))) rfl rfl ?_
 rcases Xy (decide ((i : Int) < 4)) with h137 | h137
 ·
  have h138 := of_decide_eq_true h137
  refine Xc rfl rfl rfl h137 ?_
  refine wpo_move (v := .pointer (some ⟨R, 0, none⟩)) e122 rfl ?_
  refine Xc rfl rfl rfl h137 ?_
  refine Xh (vs := [.pointer (some ⟨R, 0, none⟩), .int .i64 16]) Qb (Xb rfl (Xb rfl Xg)) rfl (Yn p1 16 (by omega) _ R bs _ _ _ k124 (by omega) (SlLt.low1 hs hb118 hlo) (by first | exact hb | exact fun b h => hb b (List.mem_of_mem_take h)) (by first | omega | (rw [List.length_take]; omega))) ?_
  rintro _ w144 ⟨k139, rfl, hk140, hk141, kR142, hg143⟩
  have hb145 := Xf hb118 hg143
  refine Xc rfl rfl rfl h137 ?_
  refine wpo_gtr (q := decide (0 < k139)) rfl rfl rfl rfl ?_
  refine wpo_pickt (v := .bool (decide (0 < k139))) rfl h137 rfl rfl ?_
  refine wpo_move (v := .bool (decide (0 < k139))) rfl rfl ?_
  rcases Xy (decide (0 < k139)) with h146 | h146
  ·
   have h147 := of_decide_eq_true h146
   refine Xc rfl rfl rfl h146 ?_
   refine wpo_move (v := .slice (some ⟨B, 0, none⟩) ms.length cap) e120 rfl ?_
   refine Xc rfl rfl rfl h146 ?_
   have hTG148 := (TabG.lt hTG hg143 (by omega))
   refine Xh (vs := [.slice (some ⟨B, 0, none⟩) ms.length cap]) Ek (Xb rfl Xg) rfl (U6  _ ms _ _ (TabG.at hTG148) hTl125 (by omega)) ?_
   rintro _ w149 ⟨rfl, hg150⟩
   have hb151 := low0 hb145 hg150
   refine Xc rfl rfl rfl h146 ?_
   refine wpo_not (b' := !tableOk (tabT ms)) rfl rfl rfl ?_
   refine wpo_pickt (v := .bool (!tableOk (tabT ms))) rfl h146 rfl rfl ?_
   refine wpo_nil ?_
   refine Xq rfl (fun h152 => ?_) (fun h152 => ?_)
   ·
    have h153 := Q3 h152
    refine Xk ?_
    refine Xn ?_
    refine Xi ?_
    refine Xv ?_
    refine Xl ?_
    refine wpo_move (v := .pointer (some ⟨R, 0, none⟩)) e122 rfl ?_
    have k154 := (kR142.grown0 hg150)
    refine Xh (vs := [.pointer (some ⟨R, 0, none⟩)]) Es (Xb rfl Xg) rfl (Hj (p1 + 1) (by omega) _ R bs _ _ _ k154 (by omega) (SlLt.low1 hs hb151 hlo) (by first | exact hb | exact fun b h => hb b (List.mem_of_mem_take h)) (by first | omega | (rw [List.length_take]; omega))) ?_
    rintro _ w166 ⟨B155, cap156, ms157, p158, rfl, hTG159, hTS160, hTn161, hp162, hp163, kR164, hg165⟩
    have hb167 := Xf hb151 hg165
    have hTG168 := TabG.mono hTG159 hb151.size
    have hTl169 := hTS160.len
    refine wpo_assign (v := .slice (some ⟨B155, 0, none⟩) ms157.length cap156) rfl rfl ?_
    refine wpo_nil ?_
    refine Yy ?_
    refine Xn ?_
    refine Xl ?_
    refine wpo_move (v := .int .i64 (i : Int)) e121 rfl ?_
    refine wpo_add (c := (i : Int) + 1) rfl rfl (by omega) (by omega) (by omega) rfl ?_
    refine wpo_assign (v := .int .i64 ((i : Int) + 1)) rfl rfl ?_
    refine wpo_nil ?_
    refine Xn ?_
    exact ⟨4 - (i + 1), by omega, (i + 1), p158, B155, cap156, ms157, rfl, (by omega), (by omega), hTG168, hTS160, hTn161, rfl, rfl, e122, e123, hb167, kR164⟩
   ·
    have h170 := Y9 h152
    refine Yj ?_
    refine Yt ?_
    refine Yt ?_
    refine Jf ?_
    refine Xn ?_
    refine Xa ?_
    refine wpo_move (v := .slice (some ⟨B, 0, none⟩) ms.length cap) e120 rfl ?_
    refine wpo_assign (v := .slice (some ⟨B, 0, none⟩) ms.length cap) rfl rfl ?_
    refine wpo_nil ?_
    refine Xj ?_
    have hTG171 := (TabG.low hTG148 hg150)
    have k172 := (kR142.grown0 hg150)
    exact ⟨.slice (some ⟨B, 0, none⟩) ms.length cap, res1 rfl rfl, B, cap, ms, (p1 + 1), rfl, hTG171, hTS, hTn, by omega, by omega, k172, hb151⟩
  ·
   have h173 := of_decide_eq_false h146
   iterate 3 refine Xe rfl rfl rfl h146 rfl ?_
   refine wpo_pickf (v := .bool false) rfl h146 rfl rfl ?_
   refine wpo_nil ?_
   refine Ya rfl rfl ?_
   refine Yj ?_
   refine Yt ?_
   refine Yt ?_
   refine Jf ?_
   refine Xn ?_
   refine Xa ?_
   refine wpo_move (v := .slice (some ⟨B, 0, none⟩) ms.length cap) e120 rfl ?_
   refine wpo_assign (v := .slice (some ⟨B, 0, none⟩) ms.length cap) rfl rfl ?_
   refine wpo_nil ?_
   refine Xj ?_
   have hTG174 := (TabG.lt hTG hg143 (by omega))
   exact ⟨.slice (some ⟨B, 0, none⟩) ms.length cap, res1 rfl rfl, B, cap, ms, (p1 + 1), rfl, hTG174, hTS, hTn, by omega, by omega, kR142, hb145⟩
 ·
  have h175 := of_decide_eq_false h137
  iterate 3 refine Xe rfl rfl rfl h137 rfl ?_
  refine wpo_pickf (v := .bool false) rfl h137 rfl rfl ?_
  refine wpo_move (v := .bool false) rfl rfl ?_
  iterate 3 refine Xe rfl rfl rfl rfl rfl ?_
  refine wpo_pickf (v := .bool false) rfl rfl rfl rfl ?_
  refine wpo_nil ?_
  refine Ya rfl rfl ?_
  refine Yj ?_
  refine Yt ?_
  refine Yt ?_
  refine Jf ?_
  refine Xn ?_
  refine Xa ?_
  refine wpo_move (v := .slice (some ⟨B, 0, none⟩) ms.length cap) e120 rfl ?_
  refine wpo_assign (v := .slice (some ⟨B, 0, none⟩) ms.length cap) rfl rfl ?_
  refine wpo_nil ?_
  refine Xj ?_
  exact ⟨.slice (some ⟨B, 0, none⟩) ms.length cap, res1 rfl rfl, B, cap, ms, p1, rfl, hTG, hTS, hTn, by omega, by omega, k124, hb118⟩
end Go.Dw.J
end
section
namespace Go.Dw.J
open Go.RowKit Go.Dw Go.Proofs
set_option linter.unusedSectionVars false
set_option maxRecDepth 100000
set_option maxHeartbeats 4000000
set_option linter.unusedSimpArgs false
set_option linter.unusedVariables false
theorem Im : goFn Try.prog 19 = true := by kernel_rfl
theorem Iq : goFn Try.prog 34 = true := by kernel_rfl
theorem Ir : goFn Try.prog 35 = true := by kernel_rfl
theorem Bv [Comp] (w : World) (ms : List MTh) (a : Option Addr) (c : Nat) (ht : TabAt w a ms) (hlen : TabLen ms) (hn : ms.length ≤ 1048576) : CallsR Try.prog 59 #[.slice a ms.length c] w (fun v w' => ∃ (B cap : Nat) (ys : List MTh), v = .slice (some ⟨B, 0, none⟩) ys.length cap ∧ tabT ys = tabT ms ∧ w.heap.size ≤ B ∧ Dw.Own w' B 35 8 cap ys.length (ys.flatMap MTh.cells) ∧ RowsO 74 3 w.heap.size w' ys ∧ w.grownBy w' none) := by
 refine Xp (n := 32) Try.func59 rfl Try.ntmps59 rfl ?_
 have hb0 := World.grownBy.refl w none
 refine Xa ?_
 refine wpo_assign (v := .slice none 0 0) rfl rfl ?_
 refine wpo_nil ?_
 refine Xa ?_
 refine wpo_buildSlice (ps := []) (e := 35) (cs := (([] : List MTh).flatMap MTh.cells).toArray) Xw (fun _ => by kernel_rfl) rfl ?_
 intro B101 w102 hN103
 have hlB101 := X1 hN103 hb0
 have hb104 := low0 hb0 hN103.grw
 refine wpo_assign (v := .slice (some ⟨B101, 0, none⟩) 0 0) rfl rfl ?_
 refine wpo_nil ?_
 refine Xi ?_
 refine Xa ?_
 refine wpo_assign (v := .int .i64 0) rfl rfl ?_
 refine wpo_nil ?_
 refine Xv ?_
 refine Ye (fun mm f' w' => ∃ (k : Nat) (Bt : Nat) (ct : Nat) (ys : List MTh), mm = ms.length - k ∧ k ≤ ms.length ∧ ys.length = k ∧ tabT ys = (tabT ms).take k ∧ RowsO 74 3 w.heap.size w' ys ∧ Dw.Own w' Bt 35 8 ct ys.length (ys.flatMap MTh.cells) ∧ w.heap.size ≤ Bt ∧ f' 3 = .slice (some ⟨Bt, 0, none⟩) ys.length ct ∧ f' 4 = .int .i64 (k : Int) ∧ f' 0 = .slice a ms.length c ∧ f' 2 = .slice none 0 0 ∧ w.grownBy w' none) (ms.length - 0) ⟨0, B101, 0, ([] : List MTh), rfl, (Nat.zero_le _), rfl, rfl, RowsO.nil, (Own.rows Ym hN103.blk (by simp)), hlB101, rfl, rfl, rfl, rfl, hb104⟩ ?_
 rintro mm f105 w106 ⟨k, Bt, ct, ys, hm108, hk, hyk, hyt, hRO, hOt, hlBt, e109, e110, e111, e112, hb107⟩
 obtain ⟨hi, hhi⟩ : ∃ n, n = w106.heap.size := ⟨_, rfl⟩
 have hH3 := RowsO.hi hRO
 rw [← hhi] at hH3
 have hhw : w.heap.size ≤ hi := by rw [hhi]; exact hb107.size
 have hbt3 := hOt.lt
 refine Xi ?_
 refine Xa ?_
 refine wpo_move (v := .int .i64 (k : Int)) e110 rfl ?_
 refine wpo_move (v := .slice a ms.length c) e111 rfl ?_
 refine wpo_len (by kernel_rfl) rfl rfl ?_
 refine wpo_lss (q := decide ((k : Int) < (ms.length : Int))) rfl rfl rfl rfl ?_
 refine wpo_nil ?_
 refine Xq rfl (fun h113 => ?_) (fun h113 => ?_)
 ·
  have h114 := of_decide_eq_true h113
  refine Xk ?_
  refine Xn ?_
  refine Xi ?_
  refine Xv ?_
  refine Xa ?_
  refine wpo_move (v := .slice a ms.length c) e111 rfl ?_
  refine wpo_move (v := .int .i64 (k : Int)) e110 rfl ?_
  obtain ⟨b117, q118, o119, ha120, ho121, hr122⟩ := SlAt.at (TabAt.low ht hb107).1 (Yh (Xz (show k < ms.length by omega)))
  have hle123 := TabLen.at hlen (Xz (show k < ms.length by omega))
  refine X2 Qp rfl rfl ha120 ho121 (by omega) (by omega) rfl ?_
  refine wpo_loadn (vs := [.int .i64 ((mAt ms k).t.kind), .int .i64 ((mAt ms k).t.lab.s), .int .i64 ((mAt ms k).t.lab.v), .int .i64 ((mAt ms k).t.ve), .int .i64 ((mAt ms k).t.num), .slice ((mAt ms k).sa) ((mAt ms k).t.slots.length) ((mAt ms k).sc), .slice ((mAt ms k).qa) ((mAt ms k).t.queue.length) ((mAt ms k).qc), .int .i64 ((mAt ms k).t.to)]) Xx rfl rfl (Qa hr122 0 8 rfl) rfl ?_
  refine wpo_alloc (cs := #[.int .i64 0, .int .i64 0, .int .i64 0, .int .i64 0, .int .i64 0, .slice none 0 0, .slice none 0 0, .int .i64 0]) Q6 rfl rfl ?_
  intro B124 w125 hN126
  have hlB124 := X1 hN126 hb107
  have hhiB124 : hi ≤ B124 := Nat.le_trans (Nat.le_of_eq hhi) hN126.ge
  have lt_Bt_B124 := Xo hN126 (hOt).lt
  have hb127 := low0 hb107 hN126.grw
  refine wpo_storen (vs := [.int .i64 ((mAt ms k).t.kind), .int .i64 ((mAt ms k).t.lab.s), .int .i64 ((mAt ms k).t.lab.v), .int .i64 ((mAt ms k).t.ve), .int .i64 ((mAt ms k).t.num), .slice ((mAt ms k).sa) ((mAt ms k).t.slots.length) ((mAt ms k).sc), .slice ((mAt ms k).qa) ((mAt ms k).t.queue.length) ((mAt ms k).qc), .int .i64 ((mAt ms k).t.to)]) (cs' := #[.int .i64 ((mAt ms k).t.kind), .int .i64 ((mAt ms k).t.lab.s), .int .i64 ((mAt ms k).t.lab.v), .int .i64 ((mAt ms k).t.ve), .int .i64 ((mAt ms k).t.num), .slice ((mAt ms k).sa) ((mAt ms k).t.slots.length) ((mAt ms k).sc), .slice ((mAt ms k).qa) ((mAt ms k).t.queue.length) ((mAt ms k).qc), .int .i64 ((mAt ms k).t.to)]) Xx rfl rfl rfl (by simp [Value.oneCell']) hN126.blk (Nat.le_of_ble_eq_true rfl) rfl ?_
  intro w128 hS129
  have hb130 := low1 hb127 hS129.grw (by omega)
  refine wpo_nil ?_
  refine Xa ?_
  refine wpo_buildSlice (ps := []) (e := 74) (cs := (([] : List Rt).flatMap Rt.cells).toArray) Xw (fun _ => by kernel_rfl) rfl ?_
  intro B131 w132 hN133
  have hlB131 := X1 hN133 hb130
  have hhiB131 : hi ≤ B131 := Nat.le_trans (Nat.le_trans (Nat.le_trans (Nat.le_of_eq hhi) hN126.grw.size) hS129.grw.size) hN133.ge
  have k134 := ((hOt.grown0 hN126.grw).gn hS129.grw)
  have lt_Bt_B131 := Xo hN133 (k134).lt
  have lt_B124_B131 := Xo hN133 (hS129.blk).lt
  have hb135 := low0 hb130 hN133.grw
  refine wpo_fieldAddr (o' := 5) Y2 rfl rfl rfl ?_
  have k136 := (hS129.blk.grown0 hN133.grw)
  refine wpo_load1 (v := .slice ((mAt ms k).sa) ((mAt ms k).t.slots.length) ((mAt ms k).sc)) Jc rfl (k136.cell rfl) rfl ?_
  have k137 := (k134.grown0 hN133.grw)
  refine wpo_appendN (g := Rt.cells) (ys := ([])) (zs := ((mAt ms k).t.slots)) (lo := hi) S5 rfl Y5 (by omega) L4 rfl rfl (OwnN.of (Own.rows Y5 hN133.blk (by simp)) hhiB131) (TabAt.th (TabAt.low ht hb135) (Xz (show k < ms.length by omega))).1 (TabAt.th (TabAt.low ht hb135) (Xz (show k < ms.length by omega))).2.2.1 (by first | omega | exact Nat.le_of_ble_eq_true rfl | (simp only [List.length_nil, List.length_cons, List.length_append, List.length_replicate]; omega) | (simp only [List.length_drop, List.length_nil]; omega)) (by omega) (Nat.le_trans (Nat.le_trans (Nat.le_trans (Nat.le_of_eq hhi) hN126.grw.size) hS129.grw.size) hN133.grw.size) rfl ?_
  intro a138 cap139 w140 hO141 hg142 hor143
  have hg144 : World.grownBy w132 w140 (some B131) := hg142
  have hb145 := low1 hb135 hg144 (by omega)
  refine wpo_fieldAddr (o' := 5) Y2 rfl rfl rfl ?_
  have k146 := (k136.gn hg144)
  refine wpo_store1 (v := .slice a138 (((mAt ms k).t.slots).length) cap139) (cs' := #[.int .i64 ((mAt ms k).t.kind), .int .i64 ((mAt ms k).t.lab.s), .int .i64 ((mAt ms k).t.lab.v), .int .i64 ((mAt ms k).t.ve), .int .i64 ((mAt ms k).t.num), .slice a138 (((mAt ms k).t.slots).length) cap139, .slice ((mAt ms k).qa) ((mAt ms k).t.queue.length) ((mAt ms k).qc), .int .i64 ((mAt ms k).t.to)]) Jc rfl rfl rfl k146 (Nat.le_of_ble_eq_true rfl) rfl ?_
  intro w147 hS148
  have hb149 := low1 hb145 hS148.grw (by omega)
  refine wpo_nil ?_
  refine Xa ?_
  refine wpo_buildSlice (ps := []) (e := 3) (cs := (([] : List Int).flatMap icell).toArray) Xw (fun _ => by kernel_rfl) rfl ?_
  intro B150 w151 hN152
  have hlB150 := X1 hN152 hb149
  have hhiB150 : hi ≤ B150 := Nat.le_trans (Nat.le_trans (Nat.le_trans (Nat.le_trans (Nat.le_trans (Nat.le_trans (Nat.le_of_eq hhi) hN126.grw.size) hS129.grw.size) hN133.grw.size) hg144.size) hS148.grw.size) hN152.ge
  have k153 := ((k137.gn hg144).gn hS148.grw)
  have lt_Bt_B150 := Xo hN152 (k153).lt
  have lt_B124_B150 := Xo hN152 (hS148.blk).lt
  have hb154 := low0 hb149 hN152.grw
  refine wpo_fieldAddr (o' := 6) Qk rfl rfl rfl ?_
  have k155 := (hS148.blk.grown0 hN152.grw)
  refine wpo_load1 (v := .slice ((mAt ms k).qa) ((mAt ms k).t.queue.length) ((mAt ms k).qc)) Jo rfl (k155.cell rfl) rfl ?_
  have k156 := (k153.grown0 hN152.grw)
  refine wpo_appendN (g := icell) (ys := ([])) (zs := ((mAt ms k).t.queue)) (lo := hi) Pm rfl Yb (by omega) V5 rfl rfl (OwnN.of (Own.rows Yb hN152.blk (by simp)) hhiB150) (TabAt.th (TabAt.low ht hb154) (Xz (show k < ms.length by omega))).2.1 (TabAt.th (TabAt.low ht hb154) (Xz (show k < ms.length by omega))).2.2.2 (by first | omega | exact Nat.le_of_ble_eq_true rfl | (simp only [List.length_nil, List.length_cons, List.length_append, List.length_replicate]; omega) | (simp only [List.length_drop, List.length_nil]; omega)) (by omega) (Nat.le_trans (Nat.le_trans (Nat.le_trans (Nat.le_trans (Nat.le_trans (Nat.le_trans (Nat.le_of_eq hhi) hN126.grw.size) hS129.grw.size) hN133.grw.size) hg144.size) hS148.grw.size) hN152.grw.size) rfl ?_
  intro a157 cap158 w159 hO160 hg161 hor162
  have hg163 : World.grownBy w151 w159 (some B150) := hg161
  have hb164 := low1 hb154 hg163 (by omega)
  refine wpo_fieldAddr (o' := 6) Qk rfl rfl rfl ?_
  have k165 := (k155.gn hg163)
  refine wpo_store1 (v := .slice a157 (((mAt ms k).t.queue).length) cap158) (cs' := #[.int .i64 ((mAt ms k).t.kind), .int .i64 ((mAt ms k).t.lab.s), .int .i64 ((mAt ms k).t.lab.v), .int .i64 ((mAt ms k).t.ve), .int .i64 ((mAt ms k).t.num), .slice a138 (((mAt ms k).t.slots).length) cap139, .slice a157 (((mAt ms k).t.queue).length) cap158, .int .i64 ((mAt ms k).t.to)]) Jo rfl rfl rfl k165 (Nat.le_of_ble_eq_true rfl) rfl ?_
  intro w166 hS167
  have hb168 := low1 hb164 hS167.grw (by omega)
  refine wpo_nil ?_
  refine Xl ?_
  refine wpo_move (v := .slice (some ⟨Bt, 0, none⟩) ys.length ct) e109 rfl ?_
  refine wpo_loadn (vs := [.int .i64 ((mAt ms k).t.kind), .int .i64 ((mAt ms k).t.lab.s), .int .i64 ((mAt ms k).t.lab.v), .int .i64 ((mAt ms k).t.ve), .int .i64 ((mAt ms k).t.num), .slice a138 (((mAt ms k).t.slots).length) cap139, .slice a157 (((mAt ms k).t.queue).length) cap158, .int .i64 ((mAt ms k).t.to)]) Xx rfl rfl (hS167.blk.rangeL 0 8 rfl) rfl ?_
  refine wpo_buildSlice (ps := [(0, .agg #[.int .i64 ((mAt ms k).t.kind), .int .i64 ((mAt ms k).t.lab.s), .int .i64 ((mAt ms k).t.lab.v), .int .i64 ((mAt ms k).t.ve), .int .i64 ((mAt ms k).t.num), .slice a138 (((mAt ms k).t.slots).length) cap139, .slice a157 (((mAt ms k).t.queue).length) cap158, .int .i64 ((mAt ms k).t.to)])]) (e := 35) (cs := (([(⟨⟨(mAt ms k).t.kind, ((mAt ms k).t.lab), (mAt ms k).t.ve, (mAt ms k).t.num, ((mAt ms k).t.slots), ((mAt ms k).t.queue), (mAt ms k).t.to⟩, a138, cap139, a157, cap158⟩ : MTh)] : List MTh).flatMap MTh.cells).toArray) (Xm rfl Xw) (fun _ => by kernel_rfl) rfl ?_
  intro B169 w170 hN171
  have hlB169 := X1 hN171 hb168
  have hhiB169 : hi ≤ B169 := Nat.le_trans (Nat.le_trans (Nat.le_trans (Nat.le_trans (Nat.le_trans (Nat.le_trans (Nat.le_trans (Nat.le_trans (Nat.le_trans (Nat.le_of_eq hhi) hN126.grw.size) hS129.grw.size) hN133.grw.size) hg144.size) hS148.grw.size) hN152.grw.size) hg163.size) hS167.grw.size) hN171.ge
  have k172 := ((k156.gn hg163).gn hS167.grw)
  have lt_Bt_B169 := Xo hN171 (k172).lt
  have lt_B124_B169 := Xo hN171 (hS167.blk).lt
  have hb173 := low0 hb168 hN171.grw
  have k174 := (k172.grown0 hN171.grw)
  have k175 := (hS167.blk.grown0 hN171.grw)
  refine wpo_append (g := MTh.cells) (ys := ys) (zs := ([(⟨⟨(mAt ms k).t.kind, ((mAt ms k).t.lab), (mAt ms k).t.ve, (mAt ms k).t.num, ((mAt ms k).t.slots), ((mAt ms k).t.queue), (mAt ms k).t.to⟩, a138, cap139, a157, cap158⟩ : MTh)] : List MTh)) S4 rfl Ym (by omega) Wm rfl rfl k174 (Je Ym hN171.blk) (by simp only [List.length_cons, List.length_nil]; omega) (by omega) rfl ?_
  intro B176 cap177 w178 hO179 hg180 hor181
  have hlB176 : w.heap.size ≤ B176 := by rcases hor181 with h | h; (rw [h]; exact hlBt); exact Nat.le_trans hb173.size h
  have ne_B124_B176 : B124 ≠ B176 := by have h := (k175).lt; omega
  have ne_B169_B176 : B169 ≠ B176 := by have h := (hN171.blk).lt; omega
  have hb182 := low1 hb173 hg180 (by omega)
  refine wpo_assign (v := .slice (some ⟨B176, 0, none⟩) ((ys ++ ([(⟨⟨(mAt ms k).t.kind, ((mAt ms k).t.lab), (mAt ms k).t.ve, (mAt ms k).t.num, ((mAt ms k).t.slots), ((mAt ms k).t.queue), (mAt ms k).t.to⟩, a138, cap139, a157, cap158⟩ : MTh)] : List MTh)).length) cap177) rfl rfl ?_
  refine wpo_nil ?_
  refine Yy ?_
  refine Xn ?_
  refine Xl ?_
  refine wpo_move (v := .int .i64 (k : Int)) e110 rfl ?_
  refine wpo_add (c := (k : Int) + 1) rfl rfl (by omega) (by omega) (by omega) rfl ?_
  refine wpo_assign (v := .int .i64 ((k : Int) + 1)) rfl rfl ?_
  refine wpo_nil ?_
  refine Xn ?_
  have hS183 := (OwnN.typ ((OwnN.typB (OwnN.typ ((OwnN.typB hO141 hS148.grw k146 (by decide)).grown0 hN152.grw) hg163 (Own.rows Yb hN152.blk (by simp)) (by decide)) hS167.grw k165 (by decide)).grown0 hN171.grw) hg180 k174 (by decide))
  exact ⟨ms.length - (k + 1), by omega, (k + 1), B176, cap177, (ys ++ ([(⟨⟨(mAt ms k).t.kind, ((mAt ms k).t.lab), (mAt ms k).t.ve, (mAt ms k).t.num, ((mAt ms k).t.slots), ((mAt ms k).t.queue), (mAt ms k).t.to⟩, a138, cap139, a157, cap158⟩ : MTh)] : List MTh)), rfl, (by omega), (by rw [List.length_append, hyk]; rfl), (Mr hyt (Xz (show k < ms.length by omega)) rfl), (RowsO.snoc (RowsO.own (RowsO.low (RowsO.ge (RowsO.ge (RowsO.low (RowsO.ge (RowsO.ge (RowsO.low (RowsO.ge (RowsO.low hRO hN126.grw) hS129.grw hH3 (by omega)) hN133.grw) hg144 hH3 (by omega)) hS148.grw hH3 (by omega)) hN152.grw) hg163 hH3 (by omega)) hS167.grw hH3 (by omega)) hN171.grw) hg180 k174 (by decide) (by decide)) ⟨OwnN.mono (OwnN.typ ((OwnN.typB (OwnN.typ ((OwnN.typB hO141 hS148.grw k146 (by decide)).grown0 hN152.grw) hg163 (Own.rows Yb hN152.blk (by simp)) (by decide)) hS167.grw k165 (by decide)).grown0 hN171.grw) hg180 k174 (by decide)) hhw, OwnN.mono (OwnN.typ ((OwnN.typB hO160 hS167.grw k165 (by decide)).grown0 hN171.grw) hg180 k174 (by decide)) hhw⟩ hH3 (fun S e => (L5 hS183 e).2)), hO179, hlB176, rfl, rfl, e111, e112, hb182⟩
 ·
  have h184 := of_decide_eq_false h113
  refine Yj ?_
  refine Yt ?_
  refine Yt ?_
  refine Jf ?_
  refine Xn ?_
  refine Xa ?_
  refine wpo_move (v := .slice (some ⟨Bt, 0, none⟩) ys.length ct) e109 rfl ?_
  refine wpo_assign (v := .slice (some ⟨Bt, 0, none⟩) ys.length ct) rfl rfl ?_
  refine wpo_nil ?_
  refine Xj ?_
  exact ⟨.slice (some ⟨Bt, 0, none⟩) ys.length ct, res1 rfl rfl, Bt, ct, ys, rfl, Cq hyt (by omega), hlBt, hOt, hRO, hb107⟩
theorem W9 [Comp] (w : World) (ms ps : List MTh) (a b : Option Addr) (c e : Nat) (ht : TabAt w a ms) (hp : TabAt w b ps) (hlen : TabLen ms) (hlep : TabLen ps) (hn : ms.length ≤ 1048576) (hm : ps.length ≤ 1048576) : CallsR Try.prog 13 #[.slice a ms.length c, .slice b ps.length e] w (fun v w' => v = .bool (decide (tabT ms = tabT ps)) ∧ w.grownBy w' none) := by
 refine Xp (n := 27) Try.func13 rfl Try.ntmps13 rfl ?_
 have hb0 := World.grownBy.refl w none
 refine Xa ?_
 refine wpo_assign (v := .bool false) rfl rfl ?_
 refine wpo_nil ?_
 refine Xi ?_
 refine Xa ?_
 refine wpo_move (v := .slice a ms.length c) rfl rfl ?_
 refine wpo_len (by kernel_rfl) rfl rfl ?_
 refine wpo_move (v := .slice b ps.length e) rfl rfl ?_
 refine wpo_len (by kernel_rfl) rfl rfl ?_
 refine wpo_neq (q := !(decide ((ms.length : Int) = (ps.length : Int)))) rfl rfl rfl rfl ?_
 refine wpo_nil ?_
 refine Xq rfl (fun h101 => ?_) (fun h101 => ?_)
 ·
  have h102 := Q3 h101
  have h103 := of_decide_eq_false h102
  refine Xa ?_
  refine wpo_assign (v := .bool false) rfl rfl ?_
  refine wpo_nil ?_
  refine Xj ?_
  refine X7 ?_
  refine ⟨.bool false, res1 rfl rfl, ?_, hb0⟩
  exact congrArg Value.bool (decide_eq_false (fun h => by have := Ud h; omega)).symm
 ·
  have h104 := Y9 h101
  have h105 := of_decide_eq_true h104
  refine Xk ?_
  refine Xn ?_
  refine Xi ?_
  refine Xa ?_
  refine wpo_assign (v := .int .i64 0) rfl rfl ?_
  refine wpo_nil ?_
  refine Xv ?_
  refine Ye (fun mm f' w' => ∃ (k : Nat), mm = ms.length - k ∧ k ≤ ms.length ∧ (tabT ms).take k = (tabT ps).take k ∧ f' 5 = .int .i64 (k : Int) ∧ f' 0 = .slice a ms.length c ∧ f' 1 = .slice b ps.length e ∧ w.grownBy w' none) (ms.length - 0) ⟨0, rfl, (Nat.zero_le _), rfl, rfl, rfl, rfl, hb0⟩ ?_
  rintro mm f106 w107 ⟨k, hm109, hk, ha, e110, e111, e112, hb108⟩
  refine Xi ?_
  refine Xa ?_
  refine wpo_move (v := .int .i64 (k : Int)) e110 rfl ?_
  refine wpo_move (v := .slice a ms.length c) e111 rfl ?_
  refine wpo_len (by kernel_rfl) rfl rfl ?_
  refine wpo_lss (q := decide ((k : Int) < (ms.length : Int))) rfl rfl rfl rfl ?_
  refine wpo_nil ?_
  refine Xq rfl (fun h113 => ?_) (fun h113 => ?_)
  ·
   have h114 := of_decide_eq_true h113
   refine Xk ?_
   refine Xn ?_
   refine Xi ?_
   refine Xv ?_
   refine Xi ?_
   obtain ⟨b159, q160, o161, ha162, ho163, hr164⟩ := SlAt.at (TabAt.low ht hb108).1 (Yh (Xz (show k < ms.length by omega)))
   have hle165 := TabLen.at hlen (Xz (show k < ms.length by omega))
   obtain ⟨b168, q169, o170, ha171, ho172, hr173⟩ := SlAt.at (TabAt.low hp hb108).1 (Yh (Xz (show k < ps.length by omega)))
   have hle174 := TabLen.at hlep (Xz (show k < ps.length by omega))
   refine Qh (m := 8) (vals := [(17, .slice a ms.length c), (18, .int .i64 (k : Int)), (19, .pointer (some ⟨b159, o161, none⟩)), (20, .agg #[.int .i64 ((mAt ms k).t.kind), .int .i64 ((mAt ms k).t.lab.s), .int .i64 ((mAt ms k).t.lab.v), .int .i64 ((mAt ms k).t.ve), .int .i64 ((mAt ms k).t.num), .slice ((mAt ms k).sa) ((mAt ms k).t.slots.length) ((mAt ms k).sc), .slice ((mAt ms k).qa) ((mAt ms k).t.queue.length) ((mAt ms k).qc), .int .i64 ((mAt ms k).t.to)]), (21, .slice b ps.length e), (22, .int .i64 (k : Int)), (23, .pointer (some ⟨b168, o170, none⟩)), (24, .agg #[.int .i64 ((mAt ps k).t.kind), .int .i64 ((mAt ps k).t.lab.s), .int .i64 ((mAt ps k).t.lab.v), .int .i64 ((mAt ps k).t.ve), .int .i64 ((mAt ps k).t.num), .slice ((mAt ps k).sa) ((mAt ps k).t.slots.length) ((mAt ps k).sc), .slice ((mAt ps k).qa) ((mAt ps k).t.queue.length) ((mAt ps k).qc), .int .i64 ((mAt ps k).t.to)])]) (fun w' => w107.grownBy w' none) Qq (by kernel_rfl) (X5 _) ?_ ?_
   ·
    refine Xd rfl (fun w178 hi179 => ?_) ?_
    ·
     have hb180 := low0 hb108 hi179
     refine wpo_move (v := .slice a ms.length c) e111 rfl ?_
     exact wpo_nil ⟨rfl, hi179⟩
    refine Xd rfl (fun w181 hi182 => ?_) ?_
    ·
     have hb183 := low0 hb108 hi182
     refine wpo_move (v := .int .i64 (k : Int)) e110 rfl ?_
     exact wpo_nil ⟨rfl, hi182⟩
    refine Xd rfl (fun w184 hi185 => ?_) ?_
    ·
     have hb186 := low0 hb108 hi185
     refine X2 Qp rfl rfl ha162 ho163 (by omega) (by omega) rfl ?_
     exact wpo_nil ⟨rfl, hi185⟩
    refine Xd rfl (fun w187 hi188 => ?_) ?_
    ·
     have hb189 := low0 hb108 hi188
     refine wpo_loadn (vs := [.int .i64 ((mAt ms k).t.kind), .int .i64 ((mAt ms k).t.lab.s), .int .i64 ((mAt ms k).t.lab.v), .int .i64 ((mAt ms k).t.ve), .int .i64 ((mAt ms k).t.num), .slice ((mAt ms k).sa) ((mAt ms k).t.slots.length) ((mAt ms k).sc), .slice ((mAt ms k).qa) ((mAt ms k).t.queue.length) ((mAt ms k).qc), .int .i64 ((mAt ms k).t.to)]) Xx rfl rfl (Qa (Yp hr164 hi188) 0 8 rfl) rfl ?_
     exact wpo_nil ⟨rfl, hi188⟩
    refine Xd rfl (fun w190 hi191 => ?_) ?_
    ·
     have hb192 := low0 hb108 hi191
     refine wpo_move (v := .slice b ps.length e) e112 rfl ?_
     exact wpo_nil ⟨rfl, hi191⟩
    refine Xd rfl (fun w193 hi194 => ?_) ?_
    ·
     have hb195 := low0 hb108 hi194
     refine wpo_move (v := .int .i64 (k : Int)) e110 rfl ?_
     exact wpo_nil ⟨rfl, hi194⟩
    refine Xd rfl (fun w196 hi197 => ?_) ?_
    ·
     have hb198 := low0 hb108 hi197
     refine X2 Qp rfl rfl ha171 ho172 (by omega) (by omega) rfl ?_
     exact wpo_nil ⟨rfl, hi197⟩
    refine Xd rfl (fun w199 hi200 => ?_) ?_
    ·
     have hb201 := low0 hb108 hi200
     refine wpo_loadn (vs := [.int .i64 ((mAt ps k).t.kind), .int .i64 ((mAt ps k).t.lab.s), .int .i64 ((mAt ps k).t.lab.v), .int .i64 ((mAt ps k).t.ve), .int .i64 ((mAt ps k).t.num), .slice ((mAt ps k).sa) ((mAt ps k).t.slots.length) ((mAt ps k).sc), .slice ((mAt ps k).qa) ((mAt ps k).t.queue.length) ((mAt ps k).qc), .int .i64 ((mAt ps k).t.to)]) Xx rfl rfl (Qa (Yp hr173 hi200) 0 8 rfl) rfl ?_
     exact wpo_nil ⟨rfl, hi200⟩
    exact Q0
   ·
    intro w202 hi203
    have hb204 := low0 hb108 hi203
    refine Xh (vs := [.agg #[.int .i64 ((mAt ms k).t.kind), .int .i64 ((mAt ms k).t.lab.s), .int .i64 ((mAt ms k).t.lab.v), .int .i64 ((mAt ms k).t.ve), .int .i64 ((mAt ms k).t.num), .slice ((mAt ms k).sa) ((mAt ms k).t.slots.length) ((mAt ms k).sc), .slice ((mAt ms k).qa) ((mAt ms k).t.queue.length) ((mAt ms k).qc), .int .i64 ((mAt ms k).t.to)], .agg #[.int .i64 ((mAt ps k).t.kind), .int .i64 ((mAt ps k).t.lab.s), .int .i64 ((mAt ps k).t.lab.v), .int .i64 ((mAt ps k).t.ve), .int .i64 ((mAt ps k).t.num), .slice ((mAt ps k).sa) ((mAt ps k).t.slots.length) ((mAt ps k).sc), .slice ((mAt ps k).qa) ((mAt ps k).t.queue.length) ((mAt ps k).qc), .int .i64 ((mAt ps k).t.to)]]) Im (Xb rfl (Xb rfl Xg)) rfl (Tu (mAt ms k) (mAt ps k) _ (TabAt.th (TabAt.low ht hb204) (Xz (show k < ms.length by omega))) (TabAt.th (TabAt.low hp hb204) (Xz (show k < ps.length by omega))) ⟨by first | omega | exact Nat.le_of_ble_eq_true rfl | (simp only [List.length_nil, List.length_cons, List.length_append, List.length_replicate]; omega), by first | omega | exact Nat.le_of_ble_eq_true rfl | (simp only [List.length_nil, List.length_cons, List.length_append, List.length_replicate]; omega)⟩ ⟨by first | omega | exact Nat.le_of_ble_eq_true rfl | (simp only [List.length_nil, List.length_cons, List.length_append, List.length_replicate]; omega), by first | omega | exact Nat.le_of_ble_eq_true rfl | (simp only [List.length_nil, List.length_cons, List.length_append, List.length_replicate]; omega)⟩) ?_
    rintro _ w205 ⟨rfl, hg206⟩
    have hb207 := low0 hb204 hg206
    refine wpo_not (b' := !(decide ((mAt ms k).t = (mAt ps k).t))) rfl rfl rfl ?_
    refine wpo_nil ?_
    refine Xn ?_
    refine Xq rfl (fun h208 => ?_) (fun h208 => ?_)
    ·
     have h209 := Q3 h208
     have h210 := of_decide_eq_false h209
     refine Xa ?_
     refine wpo_assign (v := .bool false) rfl rfl ?_
     refine wpo_nil ?_
     refine Xj ?_
     refine Qd ?_
     refine X7 ?_
     refine X7 ?_
     refine Qd ?_
     refine X7 ?_
     refine ⟨.bool false, res1 rfl rfl, ?_, hb207⟩
     exact congrArg Value.bool (decide_eq_false (V4 (K7 (by omega)) (K7 (by omega)) (of_decide_eq_false h209))).symm
    ·
     have h211 := Y9 h208
     have h212 := of_decide_eq_true h211
     refine Xk ?_
     refine Yy ?_
     refine Xn ?_
     refine Xl ?_
     refine wpo_move (v := .int .i64 (k : Int)) e110 rfl ?_
     refine wpo_add (c := (k : Int) + 1) rfl rfl (by omega) (by omega) (by omega) rfl ?_
     refine wpo_assign (v := .int .i64 ((k : Int) + 1)) rfl rfl ?_
     refine wpo_nil ?_
     refine Xn ?_
     exact ⟨ms.length - (k + 1), by omega, (k + 1), rfl, (by omega), (Jr ha (K7 (by omega)) (K7 (by omega)) (of_decide_eq_true h211)), rfl, e111, e112, hb207⟩
  ·
   have h213 := of_decide_eq_false h113
   refine Yj ?_
   refine Yt ?_
   refine Yt ?_
   refine Jf ?_
   refine Xn ?_
   refine Xa ?_
   refine wpo_assign (v := .bool true) rfl rfl ?_
   refine wpo_nil ?_
   refine Xj ?_
   refine ⟨.bool true, res1 rfl rfl, ?_, hb108⟩
   exact congrArg Value.bool (decide_eq_true (Kx ha (by rw [Yd]; omega) (by rw [Yd]; omega))).symm
theorem Lu [Comp] (bs : List Int) (a : Option Addr) (c : Nat) (w : World) (hs0 : SlAt w a 1 (bs.map bcell)) (hb : ∀ b ∈ bs, 0 ≤ b ∧ b ≤ 255) (hn : bs.length ≤ 1048576) (hc : bs.length ≤ c) : CallsR Try.prog 11 #[.slice a bs.length c] w (fun v w' => ∃ (B cap : Nat) (ms : List MTh) (l : Lab), v = .tuple #[.slice (some ⟨B, 0, none⟩) ms.length cap, .agg #[.int .i64 l.s, .int .i64 l.v]] ∧ TabG w.heap.size w' (some ⟨B, 0, none⟩) ms ∧ Small ms ∧ (3 ≤ ms.length ∧ ms.length ≤ 8) ∧ (-1 ≤ l.s ∧ l.s ≤ 4 ∧ 0 ≤ l.v ∧ l.v ≤ 3) ∧ w.grownBy w' none) := by
 refine Xp (n := 13) Try.func11 rfl Try.ntmps11 rfl ?_
 have hb0 := World.grownBy.refl w none
 have hs := SlAt.lt Nr (by omega) hs0
 refine Xa ?_
 refine wpo_assign (v := .slice none 0 0) rfl rfl ?_
 refine wpo_alloc (cs := #[.int .i64 0, .int .i64 0]) Td rfl rfl ?_
 intro B101 w102 hN103
 have hlB101 := X1 hN103 hb0
 have hb104 := low0 hb0 hN103.grw
 refine wpo_nil ?_
 refine Xa ?_
 refine wpo_move (v := .slice a bs.length c) rfl rfl ?_
 refine Xh (vs := [.slice a bs.length c]) Iq (Xb rfl Xg) rfl (Bw bs a c _ (by omega) (by omega)) ?_
 rintro _ w109 ⟨R105, rfl, hge106, kR107, hg108⟩
 have hb110 := low0 hb104 hg108
 have hlR105 := Nat.le_trans hb104.size hge106
 have lt_B101_R105 := Nat.lt_of_lt_of_le (hN103.blk).lt hge106
 refine wpo_assign (v := .pointer (some ⟨R105, 0, none⟩)) rfl rfl ?_
 refine wpo_nil ?_
 refine Xa ?_
 refine wpo_move (v := .pointer (some ⟨R105, 0, none⟩)) rfl rfl ?_
 have k112 := (hN103.blk.grown0 hg108)
 have hlt111 := (k112).lt
 have hlt113 := (kR107).lt
 refine Xh (vs := [.pointer (some ⟨R105, 0, none⟩)]) Ir (Xb rfl Xg) rfl (Tt 0 (by omega) _ R105 (bs.take 2000) _ _ _ kR107 (by omega) (SlLt.low0 (SlLt.take hs 2000) hb110) (by first | exact hb | exact fun b h => hb b (List.mem_of_mem_take h)) (by first | omega | (rw [List.length_take]; omega))) ?_
 rintro _ w125 ⟨B114, cap115, ms116, p117, rfl, hTG118, hTS119, hTn120, hp121, hp122, kR123, hg124⟩
 have hb126 := low1 hb110 hg124 (by omega)
 have hTl127 := hTS119.len
 refine wpo_assign (v := .slice (some ⟨B114, 0, none⟩) ms116.length cap115) rfl rfl ?_
 refine wpo_nil ?_
 refine Xa ?_
 refine wpo_move (v := .slice (some ⟨B114, 0, none⟩) ms116.length cap115) rfl rfl ?_
 refine wpo_move (v := .pointer (some ⟨R105, 0, none⟩)) rfl rfl ?_
 refine Xh (vs := [.pointer (some ⟨R105, 0, none⟩)]) En (Xb rfl Xg) rfl (Hi p117 (by omega) _ R105 (bs.take 2000) _ _ _ kR123 (by omega) (SlLt.low0 (SlLt.take hs 2000) hb126) (by first | exact hb | exact fun b h => hb b (List.mem_of_mem_take h)) (by first | omega | (rw [List.length_take]; omega))) ?_
 rintro _ w138 ⟨l128, p129, rfl, hr130, hr131, hr132, hr133, hp134, hp135, kR136, hg137⟩
 have hb139 := low1 hb126 hg137 (by omega)
 refine wpo_assign (v := .slice (some ⟨B114, 0, none⟩) ms116.length cap115) rfl rfl ?_
 have k140 := ((k112.gn hg124).gn hg137)
 refine wpo_storen (vs := [.int .i64 l128.s, .int .i64 l128.v]) (cs' := #[.int .i64 l128.s, .int .i64 l128.v]) Yr rfl rfl rfl (by simp [Value.oneCell']) k140 (Nat.le_of_ble_eq_true rfl) rfl ?_
 intro w141 hS142
 have hb143 := low1 hb139 hS142.grw (by omega)
 refine wpo_nil ?_
 refine Xj ?_
 have hTG144 := (TabG.lt (TabG.lt hTG118 hg137 (by omega)) hS142.grw (by omega))
 refine ⟨.tuple #[.slice (some ⟨B114, 0, none⟩) ms116.length cap115, .agg #[.int .i64 l128.s, .int .i64 l128.v]], resTC rfl rfl (resCell_mk (vs := [.int .i64 l128.s, .int .i64 l128.v]) Yr rfl rfl (hS142.blk.rangeL 0 2 rfl)), B114, cap115, ms116, l128, rfl, (TabG.mono hTG144 hb110.size), hTS119, hTn120, by omega, hb143⟩
end Go.Dw.J
end
section
namespace Go.Dw.J
open Go.Dw Go.RowKit
open Go.Conc (G)
set_option linter.unusedVariables false
set_option linter.unusedSimpArgs false
set_option linter.unusedSectionVars false
inductive Tree
  | stop
  | node (kids : World → Tree)
def Tree.Kid (t' t : Tree) : Prop := ∃ k w, t = .node k ∧ t' = k w
theorem P9 : ∀ t : Tree, Acc Tree.Kid t
  | .stop => ⟨_, fun _ ⟨_, _, h, _⟩ => by cases h⟩
  | .node k => ⟨_, fun _ ⟨k', w, h, h'⟩ => by cases h; subst h'; exact P9 (k w)⟩
def chain : Nat → Tree
  | 0 => .stop
  | n + 1 => .node fun _ => chain n
theorem W7 (n : Nat) : Tree.Kid (chain n) (chain (n + 1)) := ⟨fun _ => chain n, default, rfl, rfl⟩
section
variable [Comp] {P : Program}
def Let (A w A' w' : World) (es : Array Event) : Prop := (A'.tape = A.tape ∧ Turns A w A' w' ∧ ∀ e ∈ es, EvOk A' e) ∨ Comp.sp A w A' w' es
def Fits (P : Program) (Stop : Goroutine → World → Prop) : Tree → Goroutine → World → Prop
  | .stop, g, A => Stop g A
  | .node k, g, A => g.status = .running ∧ ∀ w, Sees A w → Comp.inv A w → ∃ g' A' w' es, stepG P Comp.main g w = .go g' w' es ∧ Sees A' w' ∧ Let A w A' w' es ∧ ∃ A0, Ext A0 A' ∧ A'.tape = A0.tape ∧ Fits P Stop (k w) g' A0
def GoJ (P : Program) (Stop : Goroutine → World → Prop) (g : Goroutine) (A : World) : Prop := ∃ T A0, Ext A0 A ∧ A.tape = A0.tape ∧ Fits P Stop T g A0
theorem Bl {Stop : Goroutine → World → Prop} {g : Goroutine} {A : World} (h : Stop g A) : GoJ P Stop g A := ⟨.stop, A, Ext.refl A, rfl, h⟩
theorem Rw {Stop : Goroutine → World → Prop} (hok : Comp.ok (GoJ P Stop)) : Closed P (GoJ P Stop) := by
  refine ⟨fun g A h => ?_, fun g A A1 he ht ⟨T, A0, h1, h2, h3⟩ => ⟨T, A0, h1.trans he, ht.trans h2, h3⟩, hok⟩
  obtain ⟨hr, h⟩ := h
  have hch : ∀ w, ∃ T : Tree, Sees A w → Comp.inv A w → ∃ g' A' w' es, stepG P Comp.main g w = .go g' w' es ∧ Sees A' w' ∧ Let A w A' w' es ∧ ∃ A0, Ext A0 A' ∧ A'.tape = A0.tape ∧ Fits P Stop T g' A0 := fun w => by
    by_cases hs : Sees A w
    · by_cases hi : Comp.inv A w
      · obtain ⟨g', A', w', es, h1, h2, h3, T, A0, h4, h5, h6⟩ := h w hs hi
        exact ⟨T, fun _ _ => ⟨g', A', w', es, h1, h2, h3, A0, h4, h5, h6⟩⟩
      · exact ⟨.stop, fun _ h => absurd h hi⟩
    · exact ⟨.stop, fun h => absurd h hs⟩
  exact ⟨.node fun w => (hch w).choose, A, Ext.refl A, rfl, hr, fun w hs hi => (hch w).choose_spec hs hi⟩
end
def mkT (l : List Nat) : Tape := fun i _ => l.getD i 0
end Go.Dw.J
end
section
namespace Go.Dw.J
open Go.Dw Go.RowKit
open Go.Conc (G)
set_option linter.unusedVariables false
set_option linter.unusedSimpArgs false
set_option linter.unusedSectionVars false
section
variable [Comp] {P : Program}
def EntryR (P : Program) (k : FuncId) (args : Array Value) (A : World) (R : Value → World → Prop) : Prop := ∀ (ops : Array Oper) (o : Oper), Special P ops o (callFunc k args) A R
theorem Jw {k : FuncId} {fn : Func} {args : Array Value} {A : World} {R : Value → World → Prop} {e : Array Value → Sem Value} (hf : P.funcs[k]? = some fn) (hname : (fn.name == "runtime.NumGoroutine") = false) (hb : fn.body.isNone = true) (hn : Extern.findNext fn = none) (he : Extern.find fn = some e)
    (h : ∀ w, Sees A w → Comp.inv A w → ∃ v A' w' evs, (e args).run P w = .ok v w' ∧ (e args).events P w #[⟨.mark (.extern k), false, true⟩] = #[⟨.mark (.extern k), false, true⟩] ++ evs ∧ (∀ x ∈ evs, x.sync = true ∧ ∀ g, x.loc ≠ .mark (.extern g)) ∧ Sees A' w' ∧ Let A w A' w' evs ∧ R v A') :
    EntryR P k args A R := fun ops o J hJ b hbk i rest kk cs a o' ho hd hw hs hk => by
  refine hJ.step _ _ ⟨rfl, fun w h1 h2 => ?_⟩
  obtain ⟨v, A', w', evs, h3, h4, h5, h6, h7, h8⟩ := h w h1 h2
  have hr : (execOp a.eval o').run P w = .ok (.value v) w' := by rw [hs, Go.run_callFunc_extern hf hname hb hn he, h3]; rfl
  refine ⟨_, A', w', evs, ?_, h6, h7, hk v A' h8⟩
  rw [Kk ho hw hbk hr, hd]
  unfold Go.Conc.listed
  rw [hs, Go.Conc.events_callFunc_extern hf hname hb hn he]
  simp only [List.push_toArray, List.nil_append]
  rw [h4, Go.Conc.seen_entry _ _ _ h5]
variable {n : Nat} {ops : Array Oper} {K : Fr → World → Prop} {l : List Oper} {f : Fr} {w : World} {ty : TypeId} {pos : String} {aft : Array Edge} {d : Nat}
theorem Qz {k : FuncId} {args : Array Operand} {tys : Array TypeId} {vs : List Value} {R : Value → World → Prop} (ha : args.toList.map (ev f) = vs) (hd : Nat.blt d n = true) (hc : EntryR P k vs.toArray w R)
    (h : ∀ v w', R v w' → WpO P n ops K l (up f d v) w') : WpO P n ops K (⟨some d, .call ⟨.value (.func k), args, tys⟩, ty, pos, aft, none⟩ :: l) f w := fun a hfa => by
  have e1 : args.map (ev f) = vs.toArray := by rw [← ha]; apply Array.ext'; simp
  have e2 : execOp a.eval ⟨some d, .call ⟨.value (.func k), args, tys⟩, ty, pos, aft, none⟩ = callFunc k vs.toArray := by
    rw [Go.Conc.execOp_call_func (a := a) rfl, hfa.eval, e1]
  exact Or.inl ⟨by simp [Region.wanted], Or.inr ⟨R, by rw [e2]; exact hc ops _, fun v A' hR => ⟨_, hfa.put hd v, h v A' hR⟩⟩⟩
end
end Go.Dw.J
end
section
namespace Go.Dw.J
open Go.Dw Go.RowKit
open Go.Conc (G crowd Past Leavers EvL Deaf_other mem_ofEvents crowd_pick awake_of woken_quitsD woken_run runT_crowd_go runT_many_ended Deaf_own)
open Go.ConcN (sumTo upd sumTo_upd upd_ne upd_same)
set_option linter.unusedVariables false
set_option linter.unusedSimpArgs false
set_option linter.unusedSectionVars false
def Runs (P : Program) (Post : Value → World → Prop) (m : Machine) (t : Trace) : Prop :=
  ∃ N last o w' t', runNT P (N + 1) m t = (.ended o w', t') ∧ runN P N m = .next last ∧ step P last = .ended o w' ∧ Go.Conc.Good P Post last o w' t'
theorem Runs.step {P : Program} {Post : Value → World → Prop} {m m' : Machine} {t : Trace} {ops : Array MemOp} (hs : stepT P m = (.next m', ops)) (h : Runs P Post m' (t ++ ops)) : Runs P Post m t := by
  obtain ⟨N, last, o, w', t', h1, h2, h3, h4⟩ := h
  exact ⟨N + 1, last, o, w', t', by rw [runNT_succ_next hs]; exact h1, by rw [runN_succ_next hs]; exact h2, h3, h4⟩
theorem G1 {A w : World} (h : Sees A w) (d : Nat) : Sees A (w.at d) := ⟨h.os, h.output, h.size, h.vis, h.nv⟩
class KeepD where
  B0 : Nat
  Wi : World
def Keep [KeepD] (A w : World) : Prop := KeepD.B0 ≤ w.heap.size ∧ ∀ b, b < KeepD.B0 → (Seen A b ∧ A.heap[b]? = w.heap[b]?) ∨ (¬ Seen A b ∧ w.heap[b]? = KeepD.Wi.heap[b]?)
theorem Keep.turns [KeepD] {A w A' w' : World} (h : Keep A w) (hT : Turns A w A' w') : Keep A' w' :=
  ⟨Nat.le_trans h.1 hT.le, fun b hb => (h.2 b hb).elim (fun ⟨h1, h2⟩ => .inl ⟨hT.see b h1, hT.eq b h1 h2⟩) fun ⟨h1, h2⟩ => .inr ⟨(hT.hid b (Nat.lt_of_lt_of_le hb h.1) h1).2, (hT.hid b (Nat.lt_of_lt_of_le hb h.1) h1).1.trans h2⟩⟩
def inBlk (b : Nat) : Loc → Prop
  | .cell a => a.block = b
  | .obj r => r = b
  | _ => False
structure BesInv [KeepD] (P : Program) (g : Goroutine) (A : World) (gs : Array Goroutine) (w : World) (t : Trace) (q : Nat → Nat) (Shun : Loc → Prop) : Prop where
  at0 : gs[0]? = some g
  tape : A.tape = mkT []
  gsz : ∀ op ∈ t, op.g < gs.size
  sees : Sees A w
  old : Leavers P t gs q
  past : Past Shun w.heap.size t
  quiet : Go.Conc.Quiet Shun t
  hid : ∀ l b, Shun l → inBlk b l → b < w.heap.size ∧ ¬ Seen A b
  lies : ∀ l, Shun l → ∃ b, inBlk b l
  keep : Keep A w
def Bes [KeepD] (P : Program) (Post : Value → World → Prop) (g : Goroutine) (A : World) : Prop :=
  ∀ gs w sl t q Shun, BesInv P g A gs w t q Shun → Runs P Post (crowd gs w sl) t
theorem Wj {t : Trace} {n g : Nat} {fn : FuncId} {pos : String} {es : Array Event} (h : ∀ op ∈ t, op.g < n) (hg : g < n) : ∀ op ∈ t ++ MemOp.ofEvents g fn pos es, op.g < n := fun op hop => by
  rcases Array.mem_append.1 hop with h1 | h1
  · exact h op h1
  · obtain ⟨e, _, rfl⟩ := Go.Conc.mem_ofEvents h1
    exact hg
theorem Wf {A w : World} {e : Event} {Shun : Loc → Prop} (h : EvOk A e) (hA : A.heap.size ≤ w.heap.size) (hS : ∀ l b, Shun l → inBlk b l → ¬ Seen A b) : EvL Shun w.heap.size e ∧ ∀ x, (MemAct.ofEvent e).touch? = some x → ¬ Shun x.loc := by
  cases h with
  | read h =>
    rename_i a
    have hn : ¬ Shun (.cell a) := fun hs => hS _ a.block hs rfl h
    refine ⟨⟨fun x hx hs => ?_, by simp, by simp, Nat.lt_of_lt_of_le h.1 hA⟩, fun x hx => ?_⟩ <;> (simp [MemAct.ofEvent, MemAct.touch?] at hx; subst hx)
    · exact absurd hs hn
    · exact hn
  | write h h2 =>
    rename_i a
    have hn : ¬ Shun (.cell a) := fun hs => hS _ a.block hs rfl h
    refine ⟨⟨fun x hx hs => ?_, by simp, by simp, Nat.lt_of_lt_of_le h.1 hA⟩, fun x hx => ?_⟩ <;> (simp [MemAct.ofEvent, MemAct.touch?] at hx; subst hx)
    · exact absurd hs hn
    · exact hn
  | obj h h2 =>
    rename_i r wr
    have hn : ¬ Shun (.obj r) := fun hs => hS _ r hs rfl h
    have e : MemAct.ofEvent ⟨.obj r, wr, false⟩ = .access ⟨.obj r, wr, false⟩ := by cases wr <;> rfl
    refine ⟨⟨fun x hx hs => ?_, by simp, by simp, by rw [e]; exact Nat.lt_of_lt_of_le h.1 hA⟩, fun x hx => ?_⟩ <;> (rw [e] at hx; simp [MemAct.touch?] at hx; subst hx)
    · exact absurd hs hn
    · exact hn
  | room => exact ⟨⟨fun x hx => by simp [MemAct.ofEvent, MemAct.touch?] at hx, by simp, by simp, trivial⟩, fun x hx => by simp [MemAct.ofEvent, MemAct.touch?] at hx⟩
end Go.Dw.J
end
section
namespace Go.Dw.J
open Go.Dw Go.RowKit
open Go.Conc (G crowd Past Leavers EvL Deaf Deaf_other mem_ofEvents crowd_pick awake awake_of woken woken_quitsD woken_run runT_crowd_go runT_many_ended Deaf_own)
open Go.ConcN (sumTo upd sumTo_upd upd_ne upd_same)
set_option linter.unusedVariables false
set_option linter.unusedSimpArgs false
set_option linter.unusedSectionVars false
@[instance_reducible] def comp0 (OK : (Goroutine → World → Prop) → Prop) : Comp := { main := true, inv := fun _ _ => True, sp := fun _ _ _ _ _ => False, ok := OK }
section
variable {P : Program} {Post : Value → World → Prop}
theorem Keep.ext [KeepD] {A A1 w : World} (h : Keep A1 w) (he : Ext A A1) : Keep A w := ⟨h.1, fun b hb => (h.2 b hb).elim (fun ⟨h1, h2⟩ => by
    have h3 : Seen A b := by
      obtain ⟨h4, h5⟩ := h1
      rcases Nat.lt_or_ge b A.heap.size with h6 | h6
      · exact ⟨h6, by rw [← he.get h6]; exact h5⟩
      · exact absurd (he.new h6 h4) h5
    exact .inl ⟨h3, (he.get h3.1).symm.trans h2⟩) fun ⟨h1, h2⟩ => .inr ⟨fun h3 => h1 ⟨Nat.lt_of_lt_of_le h3.1 he.size, by rw [he.get h3.1]; exact h3.2⟩, h2⟩⟩
theorem Ms {A w A' w' : World} (h : Turns A w A' w') {Shun : Loc → Prop} (hS : ∀ l b, Shun l → inBlk b l → b < w.heap.size ∧ ¬ Seen A b) : ∀ l b, Shun l → inBlk b l → b < w'.heap.size ∧ ¬ Seen A' b := fun l b h1 h2 =>
  ⟨Nat.lt_of_lt_of_le (hS l b h1 h2).1 h.le, (h.hid b (hS l b h1 h2).1 (hS l b h1 h2).2).2⟩
theorem V9 {Shun : Loc → Prop} {t : Trace} {g : Nat} {fn : FuncId} {pos : String} {es : Array Event} (h : Go.Conc.Quiet Shun t) (hes : ∀ e ∈ es, ∀ x, (MemAct.ofEvent e).touch? = some x → ¬ Shun x.loc) : Go.Conc.Quiet Shun (t ++ MemOp.ofEvents g fn pos es) :=
  h.app fun op hop x hx hs => by
    obtain ⟨e, he, rfl⟩ := Go.Conc.mem_ofEvents hop
    exact absurd hs (hes e he x hx)
theorem R3 {e : Event} (h : e.mute = true) : (MemAct.ofEvent e).touch? = none := Go.Conc.touch_mute h
def Next0 (P : Program) (Post : Value → World → Prop) (gs : Array Goroutine) (w : World) (sl : Option (Nat × Nat)) (t : Trace) : Prop :=
  (∃ m ops, runT P (crowd gs w sl) 0 = (.next m, ops) ∧ Runs P Post m (t ++ ops)) ∨ (∃ o w' ops, runT P (crowd gs w sl) 0 = (.ended o w', ops) ∧ ∀ w0 sl0, Go.Conc.Good P Post (crowd gs w0 sl0) o w' (t ++ ops))
theorem Vf {gs : Array Goroutine} {w w1 : World} {sl sl1 : Option (Nat × Nat)} {t : Trace} (hst : stepT P (crowd gs w sl) = runT P (crowd gs w1 sl1) 0) (h : Next0 P Post gs w1 sl1 t) : Runs P Post (crowd gs w sl) t := by
  rcases h with ⟨m, ops, h1, h2⟩ | ⟨o, w', ops, h1, h2⟩
  · exact Runs.step (hst.trans h1) h2
  · have hs := hst.trans h1
    exact ⟨0, _, o, w', t ++ ops, by simp [runNT, hs], rfl, by simp [step, hs], h2 w sl⟩
variable [KeepD]
theorem G9 {g : Goroutine} {A : World} (hr : g.status = .running) (h : ∀ gs w sl t q Shun, BesInv P g A gs w t q Shun → Next0 P Post gs w sl t) : Bes P Post g A := by
  have key : ∀ (M : Nat) (gs : Array Goroutine) (w : World) (sl : Option (Nat × Nat)) (t : Trace) (q : Nat → Nat) (Shun : Loc → Prop), sumTo gs.size q ≤ M → BesInv P g A gs w t q Shun → Runs P Post (crowd gs w sl) t := by
    intro M
    induction M with
    | zero =>
      intro gs w sl t q Shun hM I
      have haw : ∀ x ∈ gs, awake x := by
        intro x hx
        obtain ⟨i, hi, rfl⟩ := Array.mem_iff_getElem.1 hx
        rcases Nat.eq_zero_or_pos i with rfl | hpos
        · have : gs[0] = g := by simpa [Array.getElem?_eq_getElem hi] using I.at0
          rw [this]; exact awake_of (.inl hr)
        · exact awake_of ((I.old.old i _ hpos (Array.getElem?_eq_getElem hi)).status.elim .inl fun x => .inr (.inr x))
      obtain ⟨i, x, d, sl', hi, hg, hst⟩ := crowd_pick (P := P) (w := w) (sl := sl) haw ⟨0, g, I.at0, hr⟩
      rcases Nat.eq_zero_or_pos i with rfl | hpos
      · exact Vf hst (h gs (w.at d) sl' t q Shun ⟨I.at0, I.tape, I.gsz, G1 I.sees d, I.old, I.past, I.quiet, I.hid, I.lies, I.keep⟩)
      · have hq := I.old.old i x hpos hi
        have hlt : i < gs.size := (Array.getElem?_eq_some_iff.1 hi).1
        have hle := Go.ConcN.le_sumTo (f := q) hlt
        have h0 : q i = 0 := by omega
        rw [h0] at hq
        rw [hq.1] at hg; cases hg
    | succ M ih =>
      intro gs w sl t q Shun hM I
      have haw : ∀ x ∈ gs, awake x := by
        intro x hx
        obtain ⟨i, hi, rfl⟩ := Array.mem_iff_getElem.1 hx
        rcases Nat.eq_zero_or_pos i with rfl | hpos
        · have : gs[0] = g := by simpa [Array.getElem?_eq_getElem hi] using I.at0
          rw [this]; exact awake_of (.inl hr)
        · exact awake_of ((I.old.old i _ hpos (Array.getElem?_eq_getElem hi)).status.elim .inl fun x => .inr (.inr x))
      obtain ⟨i, x, d, sl', hi, hg, hst⟩ := crowd_pick (P := P) (w := w) (sl := sl) haw ⟨0, g, I.at0, hr⟩
      rcases Nat.eq_zero_or_pos i with rfl | hpos
      · exact Vf hst (h gs (w.at d) sl' t q Shun ⟨I.at0, I.tape, I.gsz, G1 I.sees d, I.old, I.past, I.quiet, I.hid, I.lies, I.keep⟩)
      · have hq := I.old.old i x hpos hi
        have hi0 : (i == 0) = false := by simp; omega
        have hlt : i < gs.size := (Array.getElem?_eq_some_iff.1 hi).1
        cases hqi : q i with
        | zero => rw [hqi] at hq; rw [hq.1] at hg; cases hg
        | succ k =>
          rw [hqi] at hq
          rcases hq with ⟨hf, _⟩ | ⟨_, g', es, hm, hstp, hq'⟩
          · rw [hf] at hg; cases hg
          have hrunT := runT_crowd_go (P := P) (sl := sl') (i := i) hi (by rw [hi0]; exact hstp (w.at d))
          have hsz : ((gs.map (woken P x g' (w.at d))).setIfInBounds i g').size = gs.size := by simp
          have hsum : sumTo gs.size (upd q i k) + (k + 1) = sumTo gs.size q + k := by
            have := sumTo_upd q k id hlt
            simpa [hqi] using this
          refine Runs.step (hst.trans hrunT) (ih _ _ _ _ (upd q i k) Shun (by rw [hsz]; omega) ⟨?_, I.tape, Wj (by rw [hsz]; exact I.gsz) (by rw [hsz]; exact hlt), G1 I.sees d, ⟨fun j y hj hy => ?_, fun j hj => ?_⟩, I.past.mute (by omega) hm, V9 I.quiet (fun e he x hx => by rw [R3 (hm e he)] at hx; cases hx), I.hid, I.lies, I.keep⟩)
          · have hne : i ≠ 0 := by omega
            rw [Array.getElem?_setIfInBounds_ne hne, Array.getElem?_map, I.at0]
            simp [woken_run hr]
          · by_cases hji : i = j
            · subst hji
              rw [Array.getElem?_setIfInBounds_self_of_lt (by simpa using hlt)] at hy
              obtain rfl := Option.some.inj hy
              rw [upd_same, Deaf_own]
              exact hq'
            · rw [Array.getElem?_setIfInBounds_ne hji, Array.getElem?_map] at hy
              obtain ⟨z, hz, rfl⟩ := Option.map_eq_some_iff.1 hy
              have hqj := I.old.old j z hj hz
              rw [woken_quitsD hqj, upd_ne q k (Ne.symm hji), Deaf_other t hji _ (fun op hop => by obtain ⟨e, _, rfl⟩ := Go.Conc.mem_ofEvents hop; rfl)]
              exact hqj
          · rw [Deaf_other t (g' := i) (by simp at hj; omega) _ (fun op hop => by obtain ⟨e, _, rfl⟩ := Go.Conc.mem_ofEvents hop; rfl)]
            exact I.old.above j (by simpa using hj)
  exact fun gs w sl t q Shun I => key _ gs w sl t q Shun (Nat.le_refl _) I
theorem Ku (OK : (Goroutine → World → Prop) → Prop) (hok : OK (Bes P Post)) : @Closed (comp0 OK) P (Bes P Post) := by
  letI := comp0 OK
  refine ⟨fun g A ⟨hr, h⟩ => G9 hr fun gs w sl t q Shun I => ?_, fun g A A1 he ht hJ gs w sl t q Shun I => hJ gs w sl t q Shun ⟨I.at0, ht.symm.trans I.tape, I.gsz, I.sees.ext he, I.old, I.past, I.quiet, fun l b h1 h2 => ⟨(I.hid l b h1 h2).1, fun hs => (I.hid l b h1 h2).2 ⟨Nat.lt_of_lt_of_le hs.1 he.size, by rw [he.get hs.1]; exact hs.2⟩⟩, I.lies, I.keep.ext he⟩, hok⟩
  obtain ⟨g', A', w', es, h1, h2, h3, h4⟩ := h w I.sees trivial
  rcases h3 with ⟨hta, hT, hE⟩ | h3
  · have hrunT := runT_crowd_go (P := P) (sl := sl) (i := 0) I.at0 (show stepG P (0 == 0) g w = _ from h1)
    have hlt : 0 < gs.size := (Array.getElem?_eq_some_iff.1 I.at0).1
    have hid' := Ms hT I.hid
    have hev := fun e he => Wf (hE e he) h2.size (Shun := Shun) fun l b x y => (hid' l b x y).2
    refine Or.inl ⟨_, _, hrunT, h4 _ _ _ _ q Shun ⟨by simp [hlt], hta.trans I.tape, Wj (by simpa using I.gsz) (by simpa using hlt), h2, ⟨fun j x hj hx => ?_, fun j hj => ?_⟩, (I.past.mono hT.le).own fun e he => (hev e he).1, V9 I.quiet fun e he => (hev e he).2, hid', I.lies, I.keep.turns hT⟩⟩
    · have hne : 0 ≠ j := by omega
      rw [Array.getElem?_setIfInBounds_ne hne, Array.getElem?_map] at hx
      obtain ⟨y, hy, rfl⟩ := Option.map_eq_some_iff.1 hx
      have hq := I.old.old j y hj hy
      rw [woken_quitsD hq, Deaf_other t (by omega) _ (fun op hop => by obtain ⟨e, _, rfl⟩ := Go.Conc.mem_ofEvents hop; rfl)]
      exact hq
    · rw [Deaf_other t (g' := 0) (by simp at hj; omega) _ (fun op hop => by obtain ⟨e, _, rfl⟩ := Go.Conc.mem_ofEvents hop; rfl)]
      exact I.old.above j (by simpa using hj)
  · exact h3.elim
theorem C9 {g : Goroutine} {A : World} {v : Value} (hr : g.status = .running) (h : ∀ w, Sees A w → Keep A w → ∃ w' es, stepG P true g w = .ended (.done v) w' es ∧ (∀ e ∈ es, EvOk A e) ∧ Post v w') : Bes P Post g A :=
  G9 hr fun gs w sl t q Shun I => by
    obtain ⟨w', es, h1, h2, h3⟩ := h w I.sees I.keep
    have hrunT := runT_many_ended (P := P) (sl := sl) (i := 0) I.at0 (show stepG P (0 == 0) g w = _ from h1)
    have hev := fun e he => Wf (h2 e he) I.sees.size (Shun := Shun) fun l b x y => (I.hid l b x y).2
    have hP' := I.past.own (fn := g.frame.fn) (pos := g.frame.place) (es := es) fun e he => (hev e he).1
    refine Or.inr ⟨_, _, _, hrunT, fun w0 sl0 => ⟨v, rfl, h3, hP'.clean, hP'.over, ⟨fun x hx => ?_, rfl⟩, fun j x hx hj => ?_⟩⟩
    · obtain ⟨j, hj⟩ := List.mem_iff_getElem?.1 hx
      rw [List.getElem?_drop] at hj
      exact ⟨_, (I.old.old (1 + j) x (by omega) (by simpa [crowd] using hj)).leaves⟩
    · have hq := I.old.old j x (by omega) hx
      refine ⟨q j, ?_⟩
      have e : (t ++ MemOp.ofEvents 0 g.frame.fn g.frame.place es).deaf j (t ++ MemOp.ofEvents 0 g.frame.fn g.frame.place es).size = Deaf t j :=
        Deaf_other t (g := j) (g' := 0) (by omega) _ (fun op hop => by obtain ⟨e, _, rfl⟩ := Go.Conc.mem_ofEvents hop; rfl)
      rw [e]
      exact hq.hears _
end
end Go.Dw.J
end
section
namespace Go.Dw.J
open Go.Dw Go.RowKit
open Go.Conc (G crowd solo Past Leavers)
set_option linter.unusedVariables false
set_option linter.unusedSimpArgs false
set_option linter.unusedSectionVars false
def seeO : Obj → Obj
  | .view _ _ => pz
  | o => o
def seeAll (W : World) : World := { W with heap := W.heap.map seeO, tape := mkT [] }
theorem Jz (W : World) (b : Nat) : (seeAll W).heap[b]? = (W.heap[b]?).map seeO := by simp [seeAll]
theorem P3 (W : World) : Sees (seeAll W) W := by
  refine ⟨rfl, rfl, by simp [seeAll], fun b hb => ?_, fun b at_ u e => ?_⟩
  · rw [Jz]
    cases h : W.heap[b]? with
    | none => exact Or.inl rfl
    | some o => cases o <;> first | exact Or.inl rfl | exact Or.inr (Or.inl rfl)
  · rw [Jz] at e
    cases h : W.heap[b]? with
    | none => rw [h] at e; cases e
    | some o => rw [h] at e; cases o <;> cases e
theorem Nh {W : World} {b : Nat} {c : Array Value} {T : TypeId} {fr : Nat × Nat} (h : W.heap[b]? = some (.cells c T fr)) : (seeAll W).heap[b]? = some (.cells c T fr) := by
  rw [Jz, h]; rfl
theorem P1 {W : World} {a : Addr} {v : Value} (h : W.cell? a = some v) : (seeAll W).cell? a = some v := by
  obtain ⟨c, T, fr, h1, h2, h3⟩ := Kv h
  exact Uh (Nh h1) h2 h3
section
variable [KeepD] {P : Program} {Post : Value → World → Prop}
theorem Si {g : Goroutine} {W : World} (hk : Keep (seeAll W) W) (h : Bes P Post g (seeAll W)) : Runs P Post (solo g W) #[] := by
  rw [Go.Conc.solo_eq_crowd]
  exact h #[g] W none #[] (fun _ => 0) (fun _ => False) ⟨rfl, rfl, by simp, P3 W, Go.Conc.leavers_one P g, Go.Conc.past_nil.mono (Nat.zero_le _), fun i op x hi => by simp at hi, fun l b h => h.elim, fun l h => h.elim, hk⟩
theorem Db (OK : (Goroutine → World → Prop) → Prop) (hok : OK (Bes P Post)) {k : FuncId} {fn : Func} {c : Code} {args : Array Value} {A : World} {R : Value → World → Prop} {n : Nat}
    (hf : P.funcs[k]? = some fn) (hb : fn.body = some c) (hn : fn.ntmps = n) (hs : Nat.ble args.size n = true) (hin : P.inits.idxOf? k = none) (hpost : ∀ v A' w, R v A' → Sees A' w → Keep A' w → Post v w)
    (h : @Wpf (comp0 OK) P n (endQ P fn R) c (f0 args) A) : Bes P Post (G (Frame.enter P k args .normal) []) A := by
  letI := comp0 OK
  have hJ : Closed P (Bes P Post) := Ku OK hok
  have hs' : args.size ≤ n := by simpa [Nat.ble_eq] using hs
  rw [Go.Conc.enter_at args hf hb, ← G7 (b := Go.Conc.base k) rfl rfl]
  have leave : ∀ (a' : Act) (f' : Fr) (A' : World) (todo : List Item), FEq n a' f' → (∃ v, resV P fn f' A' v ∧ R v A') → Bes P Post (G { ato (Go.Conc.base k) a' todo with mode := .returning } []) A' := fun a' f' A' todo hf' ⟨v, hv, hR⟩ => by
    refine C9 (v := v) rfl fun w hsee hkeep => ?_
    have hr := hv (runW A' w) (Qg A' w) _ hf'.at_
    have h1 := Sem.runT_fst P (results fn a'.tmps) (runW A' w) #[]
    rw [hr] at h1
    obtain ⟨w', k1, k2, k3, k4⟩ := frame (results fn a'.tmps) (Ld fn a'.tmps) hsee.hid (x := v) (A' := runW A' w) (es' := ((results fn a'.tmps).runT P (runW A' w) #[]).2) (Prod.ext h1 rfl)
    obtain ⟨e1, e2⟩ := Gb k1
    refine ⟨w', seen P k ((results fn a'.tmps).runT P (runW A' w) #[]).2, ?_, fun e he => ?_, hpost v A' w' hR (Sees.ext k2.sees (Qg A' w)) ((hkeep.turns (Ue hsee k3 k2)).ext (Qg A' w).norm)⟩
    · have hd : a'.defers = [] := hf'.defers
      have hd0 : (default : Frame).defers = [] := rfl
      simp [G, stepG, unwind, doReturn, ato, Go.Conc.base, hd, hd0, hf, e1, e2, GStep.after, hin]
    · have h5 := Go.Conc.mem_seen he
      obtain ⟨r, h6, h7⟩ := k4
      rw [h6] at h5
      have h8 := h7 e (by simpa using h5)
      cases h8 with
      | read h => exact .read ((Ub _).1 h)
      | write h h2 => exact .write ((Ub _).1 h) (fun x => h2 (Sf x))
      | obj h h2 => exact .obj ((Ub _).1 h) (fun x => h2 (Sf x))
      | room => exact .room
  refine h (Bes P Post) hJ (Go.Conc.base k) (by simp [Go.Conc.base]) [] [] _ ⟨rfl, by simp [hn]; omega, fun i => ?_⟩ fun e a' f' A' hf' hQ => ?_
  · simp only [f0, Uk, Array.getD_eq_getD_getElem?, Array.getElem?_toList]
    by_cases hi : i < args.size
    · rw [Array.getElem?_append_left hi]
    · rw [Array.getElem?_append_right (by omega), Array.getElem?_eq_none (by omega : args.size ≤ i)]
      by_cases h2 : i - args.size < fn.ntmps - args.size
      · simp [h2]
      · rw [Array.getElem?_eq_none (by simp; omega)]
  · cases e with
    | normal => exact hJ.move rfl (fun w => Gf rfl) (leave a' f' A' _ hf' hQ)
    | ret => exact fun k2 => hJ.move rfl (fun w => Vj rfl) (leave a' f' A' _ hf' hQ)
    | exit i => exact hQ.elim
    | goto l => exact hQ.elim
    | panic c => exact hQ.elim
    | outgrown => exact hQ.elim
end
end Go.Dw.J
end
section
namespace Go.Dw.J
open Go.Dw Go.RowKit
open Go.Conc (G)
set_option linter.unusedVariables false
set_option linter.unusedSimpArgs false
set_option linter.unusedSectionVars false
def RBlk (w : World) (b : Nat) (T : TypeId) (cs : Array Value) : Prop := ∃ fr, w.heap[b]? = some (.cells cs T fr)
section
variable {w w' : World} {b : Nat} {T : TypeId} {cs : Array Value}
theorem RBlk.lt (h : RBlk w b T cs) : b < w.heap.size := let ⟨_, e⟩ := h; (Array.getElem?_eq_some_iff.1 e).1
theorem RBlk.cell (h : RBlk w b T cs) {i : Nat} {v : Value} (hv : cs[i]? = some v) : w.cell? ⟨b, i, none⟩ = some v := let ⟨_, e⟩ := h; Uh e rfl hv
theorem RBlk.range (h : RBlk w b T cs) {o : Nat} {vs : List Value} (hv : ∀ j v, vs[j]? = some v → cs[o + j]? = some v) : w.rangeAt b o vs := fun j v hj => h.cell (hv j v hj)
theorem RBlk.grown (h : RBlk w b T cs) {r : Option Nat} (hg : w.grownBy w' r) (hne : some b ≠ r) : RBlk w' b T cs := let ⟨fr, e⟩ := h; ⟨fr, (hg.block b h.lt hne).trans e⟩
theorem RBlk.grown0 (h : RBlk w b T cs) (hg : w.grownBy w' none) : RBlk w' b T cs := h.grown hg (by simp)
theorem RBlk.rangeL (h : RBlk w b T cs) (o k : Nat) {vs : List Value} (e : (cs.toList.drop o).take k = vs) : w.rangeAt b o vs :=
  h.range fun j v hj => by
    rw [← e, List.getElem?_take] at hj
    split at hj
    · rw [List.getElem?_drop] at hj; simpa using hj
    · cases hj
end
def g0 (A : World) : Nat := A.tape 0 .zeroSizeEq
def putRow (cs : Array Value) (sz k : Nat) (vs : List Value) : Array Value := (cs.toList.take (k * sz) ++ vs ++ cs.toList.drop (k * sz + sz)).toArray
def blind (A : World) : World := { A with heap := Array.replicate A.heap.size pz, tape := mkT [1] }
theorem Rp {A w w' : World} (h : Sees A w) (ho : w'.os = w.os) (hp : w'.output = w.output) (hs : w.heap.size ≤ w'.heap.size) : Sees (blind A) w' := by
  refine ⟨h.os.trans ho.symm, h.output.trans hp.symm, ?_, fun b hb => Or.inr (Or.inl ?_), fun b at_ u e => ?_⟩
  · simpa [blind] using Nat.le_trans h.size hs
  · have : b < A.heap.size := by simpa [blind] using hb
    simp [blind, this]
  · by_cases hb : b < A.heap.size
    · simp [blind, hb, pz] at e
    · simp [blind, hb] at e
theorem Rn {A : World} {b : Nat} : ¬ Seen (blind A) b := by
  rintro ⟨h1, h2⟩
  have : b < A.heap.size := by simpa [blind] using h1
  exact h2 (by simp [blind, this])
def hideB (A : World) (b : Nat) : World := { A with heap := A.heap.setIfInBounds b pz }
theorem Kb {A : World} {b c : Nat} (h : c ≠ b) : (hideB A b).heap[c]? = A.heap[c]? := by simp [hideB, Array.getElem?_setIfInBounds_ne (Ne.symm h)]
theorem Hh {A w : World} (h : Sees A w) (b : Nat) : Sees (hideB A b) w := by
  refine ⟨h.os, h.output, by simpa [hideB] using h.size, fun c hc => ?_, fun c at_ u e => ?_⟩
  · by_cases e : c = b
    · subst e
      exact Or.inr (Or.inl (by simp [hideB] at hc; simp [hideB, hc]))
    · rw [Kb e]; exact h.vis c (by simpa [hideB] using hc)
  · by_cases e2 : c = b
    · subst e2
      by_cases hc : c < A.heap.size
      · simp [hideB, hc, pz] at e
      · simp [hideB, hc] at e
    · rw [Kb e2] at e; exact h.nv _ _ _ e
theorem Jy {A : World} {b c : Nat} (h : Seen (hideB A b) c) : Seen A c ∧ c ≠ b := by
  obtain ⟨h1, h2⟩ := h
  have h3 : c < A.heap.size := by simpa [hideB] using h1
  by_cases e : c = b
  · subst e; exact absurd (by simp [hideB, h3]) h2
  · rw [Kb e] at h2; exact ⟨⟨h3, h2⟩, e⟩
structure RowStep (C n sz k : Nat) (TT : TypeId) (Out : List Value → World → Prop) (bx : Nat) (val : Value) (ety : TypeId) (A w A' w' : World) (es : Array Event) : Prop where
  g0 : g0 A = 0
  new : A' = blind A
  box : A.heap[bx]? = some (.cells #[val] ety (0, 0))
  row : ∃ cs vs, w.heap[C]? = some (.cells cs TT (0, 0)) ∧ cs.size = n * sz ∧ vs.length = sz ∧ Out vs (hideB A bx) ∧ w' = w.setRow C (putRow cs sz k vs)
  evs : ∀ e ∈ es, ∃ j, j < sz ∧ e = ⟨.cell ⟨C, k * sz + j, none⟩, true, false⟩
@[instance_reducible] def compW (C n sz k : Nat) (TT : TypeId) (Out : List Value → World → Prop) (bx : Nat) (val : Value) (ety : TypeId) : Comp where
  main := false
  inv A w := g0 A = 0 → n ≠ 0 → ∃ cs, w.heap[C]? = some (.cells cs TT (0, 0)) ∧ cs.size = n * sz
  sp := RowStep C n sz k TT Out bx val ety
  ok _ := True
theorem Hr {P : Program} {C o : Nat} {T : TypeId} : ∀ (vs : List Value) (i : Nat) (cur : Array Value) (w : World) (es : Array Event), w.heap[C]? = some (.cells cur T (0, 0)) → o + i + vs.length ≤ cur.size → (∀ v ∈ vs, v.oneCell' = true) →
    ∀ e ∈ (storeCells ⟨C, o, none⟩ vs i).events P w es, e ∈ es ∨ ∃ j, j < i + vs.length ∧ e = ⟨.cell ⟨C, o + j, none⟩, true, false⟩
  | [], i, cur, w, es, _, _, _, e, he => Or.inl (by simpa [storeCells] using he)
  | v :: vs, i, cur, w, es, hb, hl, h1, e, he => by
    have hlt : o + i < cur.size := by simp at hl; omega
    have hB : Blk w C T cur := hb
    have hc := hB.cell (i := o + i) (v := cur[o + i]) (by simp [hlt])
    have ha : (⟨C, o, none⟩ : Addr).add i = ⟨C, o + i, none⟩ := Addr.add_mid _ _ _
    have hr : (store ((⟨C, o, none⟩ : Addr).add i) v).run P w = .ok () (w.setRow C (cur.setIfInBounds (o + i) v)) := by
      rw [ha, run_store P w _ v _ (h1 v (by simp)), hc]
      simp [hB.froz (o + i), setCell_eq_setRow w C (o + i) cur T (0, 0) v hb]
    have hev : (store ((⟨C, o, none⟩ : Addr).add i) v).events P w es = es.push ⟨.cell ⟨C, o + i, none⟩, true, false⟩ := by
      rw [ha, Go.events_store P w es _ v _ (h1 v (by simp)), hc]
      simp only [hB.froz (o + i), Bool.false_eq_true, if_false]
      rfl
    unfold storeCells at he
    simp only [Sem.events_bind, hr, Result.evThen_ok, hev] at he
    rcases Hr vs (i + 1) _ _ _ (Q2 hB (cur.setIfInBounds (o + i) v)).blk (by simp at hl ⊢; omega) (fun u hu => h1 u (by simp [hu])) e he with h | ⟨j, hj, h⟩
    · rcases Array.mem_push.1 h with h | h
      · exact Or.inl h
      · exact Or.inr ⟨i, by simp, h⟩
    · exact Or.inr ⟨j, by simp; omega, h⟩
theorem Gs {P : Program} {t k C o : Nat} {T : TypeId} {cs : Array Value} {vs : List Value} {w : World} (h : rowTy P t = some k) (hl : vs.length = k) (h1 : ∀ v ∈ vs, v.oneCell' = true) (hb : w.heap[C]? = some (.cells cs T (0, 0))) (ho : o + k ≤ cs.size) {e : Event}
    (he : e ∈ (Instr.storeAt t (.pointer (some ⟨C, o, none⟩)) (.agg vs.toArray)).events P w #[]) : ∃ j, j < k ∧ e = ⟨.cell ⟨C, o + j, none⟩, true, false⟩ := by
  obtain ⟨d, _, _, hs⟩ := K2 h
  cases hq : P.info? t with
  | none => simp [hq] at hs
  | some i =>
    have hi : i.size = k := by simpa [hq] using hs
    have e2 : (Instr.storeAt t (.pointer (some ⟨C, o, none⟩)) (.agg vs.toArray)).events P w #[] = (storeCells ⟨C, o, none⟩ vs 0).events P w #[] := by
      simp [Instr.storeAt, Instr.sureAddr, storeVar, sizeOf, typeInfo, hq, hi, Value.cells, hl]
    rw [e2] at he
    rcases Hr vs 0 cs w #[] hb (by omega) h1 e he with h | ⟨j, hj, h⟩
    · simp at h
    · exact ⟨j, by omega, h⟩
section
variable {P : Program} {C n sz k : Nat} {TT : TypeId} {Out : List Value → World → Prop} {bx : Nat} {val : Value} {ety : TypeId}
theorem Ef {nn : Nat} {ops : Array Oper} {K : Fr → World → Prop} {l : List Oper} {f : Fr} {w : World} {ty : TypeId} {pos : String} {aft : Array Edge} {t : TypeId} {x y : Operand} {vs : List Value} (ht : rowTy P t = some sz) (hx : ev f x = .pointer (some ⟨C, k * sz, none⟩)) (hy : ev f y = .agg vs.toArray) (hl : vs.length = sz)
    (h1 : ∀ v ∈ vs, v.oneCell' = true) (hk : k < n) (hg : g0 w = 0) (hbx : w.heap[bx]? = some (.cells #[val] ety (0, 0))) (hO : Out vs (hideB w bx)) (h : @WpO (compW C n sz k TT Out bx val ety) P nn ops K l f (blind w)) : @WpO (compW C n sz k TT Out bx val ety) P nn ops K (⟨none, .store t x y, ty, pos, aft, none⟩ :: l) f w := by
  letI := compW C n sz k TT Out bx val ety
  intro a ha
  refine Or.inl ⟨by simp [Region.wanted], Or.inr ⟨fun v A' => A' = blind w, ?_, fun v A' hR => ⟨f, ha, by rw [hR]; exact h⟩⟩⟩
  intro J hJ b hb i rest kk cs a2 o' ho hd hw hs hk'
  refine hJ.step _ _ ⟨rfl, fun w1 hsee hinv => ?_⟩
  obtain ⟨cur, hC, hsz⟩ := hinv hg (by omega)
  have hB : Blk w1 C TT cur := hC
  have hle : k * sz + sz ≤ cur.size := by
    rw [hsz]
    have : (k + 1) * sz ≤ n * sz := Nat.mul_le_mul_right _ hk
    rwa [Nat.add_mul, Nat.one_mul] at this
  have he : execOp a.eval ⟨none, .store t x y, ty, pos, aft, none⟩ = (do Instr.storeAt t (.pointer (some ⟨C, k * sz, none⟩)) (.agg vs.toArray); pure .skip : Sem Next) := by
    rw [ha.eval]
    show (do Instr.storeAt t (ev f x) (ev f y); pure .skip : Sem Next) = _
    rw [hx, hy]
  have hr : (execOp a2.eval o').run P w1 = .ok .skip (w1.setRow C (putRow cur sz k vs)) := by
    rw [hs, he, Sem.run_bind, K3 ht hl h1 hB hle]
    rfl
  refine ⟨_, blind w, w1.setRow C (putRow cur sz k vs), _, Hv ho hw hb hr, Rp hsee rfl rfl (Nat.le_of_eq (size_setRow _ _ _).symm), Or.inr ⟨hg, rfl, hbx, ⟨cur, vs, hC, hsz, hl, hO, rfl⟩, fun e hev => ?_⟩, ?_⟩
  · have h5 := Go.Conc.mem_seen hev
    rw [hs, he] at h5
    refine Gs ht hl h1 hC hle (e := e) ?_
    rw [Sem.events_bind, K3 ht hl h1 hB hle] at h5
    exact h5
  · rw [hd]; exact hk' undef _ rfl
end
end Go.Dw.J
end
section
namespace Go.Dw.J
open Go.Dw Go.RowKit
open Go.Conc (G)
set_option linter.unusedVariables false
set_option linter.unusedSimpArgs false
set_option linter.unusedSectionVars false
section
variable {α : Type} (r : α → α → Prop)
def FamR (N : Nat) (F' F : Nat → α) : Prop := ∃ i, i < N ∧ r (F' i) (F i) ∧ ∀ j, j ≠ i → F' j = F j
theorem He (hr : ∀ x, Acc r x) : ∀ (N : Nat) (F : Nat → α), Acc (FamR r N) F
  | 0, F => ⟨_, fun _ ⟨i, h, _⟩ => by omega⟩
  | N + 1, F => by
    have key : ∀ t, Acc r t → ∀ F : Nat → α, F N = t → Acc (FamR r (N + 1)) F := by
      intro t ht
      induction ht with
      | intro t _ ih =>
        intro F hF
        have inner : ∀ F, Acc (FamR r N) F → F N = t → Acc (FamR r (N + 1)) F := by
          intro F hF
          induction hF with
          | intro F _ ih2 =>
            intro hN
            refine ⟨_, fun F' ⟨i, hi, hk, ho⟩ => ?_⟩
            rcases Nat.lt_or_ge i N with h | h
            · exact ih2 F' ⟨i, h, hk, ho⟩ ((ho N (by omega)).trans hN)
            · have : i = N := by omega
              subst this
              exact ih (F' i) (hN ▸ hk) F' rfl
        exact inner F (He hr N F) hF
    exact key (F N) (hr _) F rfl
end
abbrev Sz := Nat × Tree
def Lo : Sz → Sz → Prop := Prod.Lex (· < ·) Tree.Kid
theorem Bz : ∀ x, Acc Lo x := (Prod.lex ⟨_, Nat.lt_wfRel.wf⟩ ⟨Tree.Kid, ⟨P9⟩⟩).wf.apply
theorem Lo.stage {s s' : Nat} {t t' : Tree} (h : s' < s) : Lo (s', t') (s, t) := Prod.Lex.left _ _ h
theorem Lo.kid {s : Nat} {t t' : Tree} (h : Tree.Kid t' t) : Lo (s, t') (s, t) := Prod.Lex.right _ h
section
variable {A B w A' w' : World} {N0 : Nat}
theorem Sees.still (h : Sees B w) (ho : w'.os = w.os) (hp : w'.output = w.output) (hs : w.heap.size ≤ w'.heap.size) (hb : ∀ b, Seen B b → w'.heap[b]? = w.heap[b]?) : Sees B w' := by
  refine ⟨h.os.trans ho.symm, h.output.trans hp.symm, Nat.le_trans h.size hs, fun b hlt => ?_, h.nv⟩
  by_cases hse : B.heap[b]? = some pz
  · exact Or.inr (Or.inl hse)
  · rw [hb b ⟨hlt, hse⟩]; exact h.vis b hlt
def Rds (N0 : Nat) (A : World) : Prop := ∀ b, b < N0 → Ro A b ∨ ¬ Seen A b
theorem Rds.turns (h : Rds N0 A) (hN : N0 ≤ w.heap.size) (hT : Turns A w A' w') : Rds N0 A' := fun b hb => by
  rcases h b hb with hr | hn
  · obtain ⟨c, T, e, h2⟩ := hr
    exact Or.inl ⟨c, T, ((hT.read b ⟨c, T, e, h2⟩).2).trans e, h2⟩
  · exact Or.inr (hT.hid b (Nat.lt_of_lt_of_le hb hN) hn).2
theorem Rds.still (h : Rds N0 A) (hT : Turns A w A' w') (hN : N0 ≤ w.heap.size) {b : Nat} (hb : b < N0) : w'.heap[b]? = w.heap[b]? := by
  rcases h b hb with hr | hn
  · exact (hT.read b hr).1
  · exact (hT.hid b (Nat.lt_of_lt_of_le hb hN) hn).1
theorem Sees.other (hB : Sees B w) (hT : Turns A w A' w') (hlo : Rds N0 A) (hN : N0 ≤ w.heap.size) (hap : ∀ b, N0 ≤ b → Seen B b → ¬ Seen A b) : Sees B w' :=
  hB.still hT.os hT.output hT.le fun b hse => by
    rcases Nat.lt_or_ge b N0 with h | h
    · exact hlo.still hT hN h
    · exact (hT.hid b (Nat.lt_of_lt_of_le hse.1 hB.size) (hap b h hse)).1
theorem Turns.grow (hT : Turns A w A' w') {b : Nat} (h : Seen A' b) : Seen A b ∨ w.heap.size ≤ b := by
  rcases Nat.lt_or_ge b w.heap.size with h1 | h1
  · exact Or.inl (Classical.byContradiction fun hn => (hT.hid b h1 hn).2 h)
  · exact Or.inr h1
theorem Seen.ext {A A1 : World} (he : Ext A A1) {b : Nat} : Seen A1 b ↔ Seen A b := by
  constructor
  · rintro ⟨h1, h2⟩
    rcases Nat.lt_or_ge b A.heap.size with h3 | h3
    · exact ⟨h3, by rw [← he.get h3]; exact h2⟩
    · exact absurd (he.new h3 h1) h2
  · rintro ⟨h1, h2⟩
    exact ⟨Nat.lt_of_lt_of_le h1 he.size, by rw [he.get h1]; exact h2⟩
theorem Ro.ext {A A1 : World} (he : Ext A A1) {b : Nat} : Ro A b → Ro A1 b := fun h => let ⟨c, T, e, h2⟩ := h; ⟨c, T, by rw [he.get (S7 h)]; exact e, h2⟩
theorem Ro.ext' {A A1 : World} (he : Ext A A1) {b : Nat} (h : Ro A1 b) : Ro A b := by
  have hs := (Seen.ext he).1 (D2 h)
  obtain ⟨c, T, e, h2⟩ := h
  exact ⟨c, T, by rw [← he.get hs.1]; exact e, h2⟩
theorem Rds.ext {A1 : World} (he : Ext A A1) (h : Rds N0 A) : Rds N0 A1 := fun b hb => (h b hb).imp (Ro.ext he) fun hn hs => hn ((Seen.ext he).1 hs)
theorem Rds.ext' {A1 : World} (he : Ext A A1) (h : Rds N0 A1) : Rds N0 A := fun b hb => (h b hb).imp (Ro.ext' he) fun hn hs => hn ((Seen.ext he).2 hs)
end
end Go.Dw.J
end
section
namespace Go.CJ
open Go.Conc Go.ConcN
set_option linter.unusedVariables false
set_option linter.unusedSimpArgs false
set_option linter.unusedSectionVars false
structure Apart (s0 : Nat) (Sh : Loc → Prop) (Own Rd : Nat → Loc → Prop) : Prop where
  own : ∀ k k' l, s0 ≤ k → s0 ≤ k' → Own k l → Own k' l → k = k'
  ownRd : ∀ k k' l, s0 ≤ k → s0 ≤ k' → Own k l → ¬ Rd k' l
  ownSh : ∀ k l, s0 ≤ k → Own k l → ¬ Sh l
  rdSh : ∀ k l, s0 ≤ k → Rd k l → ¬ Sh l
structure CJ (s0 : Nat) (Sh : Loc → Prop) (Own Rd : Nat → Loc → Prop) (a : Addr) (t : Trace) (N : Nat) : Prop where
  quiet : Quiet Sh t
  own : ∀ k, s0 ≤ k → k < N → ∀ l, l.isMemory = true → Own k l → Perm t k l
  rd : ∀ k, s0 ≤ k → k < N → ∀ l, l.isMemory = true → Rd k l → PermW t k l
  free : ∀ l, l.isMemory = true → ¬ Sh l → (∀ k, s0 ≤ k → k < N → ¬ Own k l ∧ ¬ Rd k l) → Perm t 0 l
  mine : ∀ l, l.isMemory = true → ¬ Sh l → (∀ k, s0 ≤ k → k < N → ¬ Own k l) → PermW t 0 l
  nr : ∀ said, ¬ Race said t
  gs : ∀ op ∈ t, op.g < N
  old : ∀ (i : Nat) (x : Touch) (g : Nat), touchAt t i = some x → x.loc.isMemory = true → t.g? i = some g → g < s0 → Knows t 0 i ∨ (Sh x.loc ∧ x.kind = .atomic)
  new : ∀ (i : Nat) (x : Touch) (g : Nat), touchAt t i = some x → t.g? i = some g → s0 ≤ g → x.kind = .atomic → Sh x.loc
  over : ∀ i g, t.g? i = some g → g ≠ 0 → g < s0 → t.counts i → ∃ j, t.g? j = some 0 ∧ HappensBefore t i j
  norel : NoRelease a t
def Ok0 (s0 : Nat) (Sh : Loc → Prop) (Own Rd : Nat → Loc → Prop) (N : Nat) (op : MemOp) : Prop :=
  op.g = 0 ∧ ∀ x, op.act.touch? = some x → (Sh x.loc ∧ x.kind ≠ .plain) ∨ (¬ Sh x.loc ∧ (∀ k, s0 ≤ k → k < N → ¬ Own k x.loc) ∧ (x.write = true → ∀ k, s0 ≤ k → k < N → ¬ Rd k x.loc))
def OkW (Sh : Loc → Prop) (Own Rd : Nat → Loc → Prop) (k : Nat) (op : MemOp) : Prop :=
  op.g = k ∧ ∀ x, op.act.touch? = some x → (Sh x.loc ∧ x.kind ≠ .plain ∧ x.kind ≠ .said) ∨ (Own k x.loc ∧ x.kind ≠ .atomic) ∨ (Rd k x.loc ∧ x.write = false ∧ x.kind ≠ .atomic)
section
variable {s0 N : Nat} {Sh : Loc → Prop} {Own Rd : Nat → Loc → Prop} {a : Addr} {t u : Trace}
theorem Gw (h : CJ s0 Sh Own Rd a t N) (hu : ∀ op ∈ u, ∀ x, op.act.touch? = some x → op.g = 0 ∨ s0 ≤ op.g) : ∀ (i : Nat) (x : Touch) (g : Nat), touchAt (t ++ u) i = some x → x.loc.isMemory = true → (t ++ u).g? i = some g → g < s0 → Knows (t ++ u) 0 i ∨ (Sh x.loc ∧ x.kind = .atomic) := by
  intro i x g hx hm hg hs
  obtain ⟨op, ho, hox⟩ := touch_of hx
  rcases getElem?_append_cases ho with ⟨hlt, ho'⟩ | ⟨hge, hou⟩
  · exact (h.old i x g (by rw [touchAt_of ho']; exact hox) hm (by unfold Trace.g? at hg ⊢; rw [ho] at hg; rw [ho']; exact hg) hs).imp (·.app u) id
  · have e : op.g = g := by unfold Trace.g? at hg; rw [ho] at hg; simpa using hg
    rcases hu op hou x hox with h0 | h0
    · have := knows_own ho
      rw [h0] at this
      exact Or.inl this
    · omega
theorem Gv (h : CJ s0 Sh Own Rd a t N) (hu : ∀ op ∈ u, s0 ≤ op.g → ∀ x, op.act.touch? = some x → x.kind = .atomic → Sh x.loc) : ∀ (i : Nat) (x : Touch) (g : Nat), touchAt (t ++ u) i = some x → (t ++ u).g? i = some g → s0 ≤ g → x.kind = .atomic → Sh x.loc := by
  intro i x g hx hg hs hk
  obtain ⟨op, ho, hox⟩ := touch_of hx
  rcases getElem?_append_cases ho with ⟨hlt, ho'⟩ | ⟨hge, hou⟩
  · exact h.new i x g (by rw [touchAt_of ho']; exact hox) (by unfold Trace.g? at hg ⊢; rw [ho] at hg; rw [ho']; exact hg) hs hk
  · have e : op.g = g := by unfold Trace.g? at hg; rw [ho] at hg; simpa using hg
    exact hu op hou (by omega) x hox hk
theorem Wn (h : CJ s0 Sh Own Rd a t N) (hu : ∀ op ∈ u, ∀ x, op.act.touch? = some x → op.g = 0 ∨ s0 ≤ op.g) : ∀ i g, (t ++ u).g? i = some g → g ≠ 0 → g < s0 → (t ++ u).counts i → ∃ j, (t ++ u).g? j = some 0 ∧ HappensBefore (t ++ u) i j := by
  intro i g hg hne hs hc
  obtain ⟨x, hx, hc'⟩ := hc
  obtain ⟨op, hop, hox⟩ := touch_of hx
  rcases getElem?_append_cases hop with ⟨hi, hop'⟩ | ⟨_, hopu⟩
  · obtain ⟨j, hj, hb⟩ := h.over i g (by simpa [Trace.g?, getElem?_append_old hi] using hg) hne hs ((counts_old hi).1 ⟨x, hx, hc'⟩)
    have hjl : j < t.size := by
      unfold Trace.g? at hj
      obtain ⟨z, hz, _⟩ := Option.map_eq_some_iff.1 hj
      exact lt_size_of_getElem? hz
    exact ⟨j, by simpa [Trace.g?, getElem?_append_old hjl] using hj, hb_app u hb⟩
  · have e : op.g = g := by unfold Trace.g? at hg; rw [hop] at hg; simpa using hg
    rcases hu op hopu x hox with h0 | h0 <;> omega
theorem Ul (h : NoRelease a t) (hu : ∀ op ∈ u, op.act ≠ .mark (.release a)) : NoRelease a (t ++ u) := by
  intro i e
  unfold Trace.act? at e
  obtain ⟨op, ho, ha⟩ := Option.map_eq_some_iff.1 e
  rcases getElem?_append_cases ho with ⟨_, ho'⟩ | ⟨_, hou⟩
  · exact h i (by unfold Trace.act?; rw [ho']; simp [ha])
  · exact hu op hou ha
theorem CJ.app0 (A : Apart s0 Sh Own Rd) (hs : 1 ≤ s0) (hN : s0 ≤ N) (h : CJ s0 Sh Own Rd a t N) (hu : ∀ op ∈ u, Ok0 s0 Sh Own Rd N op) (hr : ∀ op ∈ u, op.act ≠ .mark (.release a)) : CJ s0 Sh Own Rd a (t ++ u) N := by
  refine ⟨h.quiet.app fun op hop x hx hs => ?_, fun k k1 kj l hm hl => (h.own k k1 kj l hm hl).app fun op hop b hb e => ?_, fun k k1 kj l hm hl => (h.rd k k1 kj l hm hl).app fun op hop b hb e hw => ?_,
    fun l hm hs hl => (h.free l hm hs hl).app fun op hop _ _ _ => (hu op hop).1, fun l hm hs hl => (h.mine l hm hs hl).app fun op hop _ _ _ _ => (hu op hop).1, fun said => ?_, fun op hop => ?_,
    Gw h fun op hop _ _ => Or.inl (hu op hop).1, Gv h fun op hop hs' => by have := (hu op hop).1; omega, Wn h fun op hop _ _ => Or.inl (hu op hop).1, Ul h.norel hr⟩
  · rcases (hu op hop).2 x hx with ⟨_, hk⟩ | ⟨hn, _⟩
    · exact ⟨hk, fun _ => (hu op hop).1⟩
    · exact absurd hs hn
  · rcases (hu op hop).2 b hb with ⟨hs, _⟩ | ⟨_, hn, _⟩
    · exact absurd (e ▸ hs) (A.ownSh k l k1 hl)
    · exact absurd (e ▸ hl) (hn k k1 kj)
  · rcases (hu op hop).2 b hb with ⟨hs, _⟩ | ⟨_, _, hn⟩
    · exact absurd (e ▸ hs) (A.rdSh k l k1 hl)
    · exact absurd (e ▸ hl) (hn hw k k1 kj)
  · refine noRace_append (h.nr said) (fun op hop => (hu op hop).1) (fun i x ha op hop b hb hc => ?_)
    rcases (hu op hop).2 b hb with ⟨hs, hk⟩ | ⟨hs, hno, hnr⟩
    · exact h.quiet.known hs hk (fun _ => rfl) i x ha hc
    · have hm : b.loc.isMemory = true := by rw [← hc.1]; exact hc.2.1
      cases hbw : b.write with
      | true => exact h.free b.loc hm hs (fun k k1 kj => ⟨hno k k1 kj, hnr hbw k k1 kj⟩) i x ha hc.1
      | false => exact h.mine b.loc hm hs hno i x ha hc.1 (hc.2.2.1.resolve_right (by simp [hbw]))
  · rcases Array.mem_append.1 hop with h1 | h1
    · exact h.gs op h1
    · rw [(hu op h1).1]; omega
theorem CJ.appW (A : Apart s0 Sh Own Rd) (h : CJ s0 Sh Own Rd a t N) {k : Nat} (k1 : s0 ≤ k) (kj : k < N) (hu : ∀ op ∈ u, OkW Sh Own Rd k op) (hr : ∀ op ∈ u, op.act ≠ .mark (.release a)) : CJ s0 Sh Own Rd a (t ++ u) N := by
  refine ⟨h.quiet.app fun op hop x hx hs => ?_, fun k' k1' kj' l hm hl => (h.own k' k1' kj' l hm hl).app fun op hop b hb e => ?_, fun k' k1' kj' l hm hl => (h.rd k' k1' kj' l hm hl).app fun op hop b hb e hw => ?_,
    fun l hm hs hl => (h.free l hm hs hl).app fun op hop b hb e => ?_, fun l hm hs hl => (h.mine l hm hs hl).app fun op hop b hb e hw => ?_, fun said => ?_, fun op hop => ?_,
    Gw h fun op hop _ _ => Or.inr (by rw [(hu op hop).1]; exact k1), Gv h fun op hop _ x hx hk => ?_, Wn h fun op hop _ _ => Or.inr (by rw [(hu op hop).1]; exact k1), Ul h.norel hr⟩
  · rcases (hu op hop).2 x hx with ⟨_, hk, hn⟩ | ⟨ho, _⟩ | ⟨hr, _⟩
    · exact ⟨hk, fun e => absurd e hn⟩
    · exact absurd hs (A.ownSh k _ k1 ho)
    · exact absurd hs (A.rdSh k _ k1 hr)
  · rcases (hu op hop).2 b hb with ⟨hs, _⟩ | ⟨ho, _⟩ | ⟨hr, _⟩
    · exact absurd (e ▸ hs) (A.ownSh k' l k1' hl)
    · rw [(hu op hop).1]; exact A.own k k' l k1 k1' (e ▸ ho) hl
    · exact absurd (e ▸ hr) (A.ownRd k' k l k1' k1 hl)
  · rcases (hu op hop).2 b hb with ⟨hs, _⟩ | ⟨ho, _⟩ | ⟨_, hr, _⟩
    · exact absurd (e ▸ hs) (A.rdSh k' l k1' hl)
    · exact absurd hl (A.ownRd k k' l k1 k1' (e ▸ ho))
    · rw [hr] at hw; cases hw
  · rcases (hu op hop).2 b hb with ⟨hs', _⟩ | ⟨ho, _⟩ | ⟨hr, _⟩
    · exact absurd (e ▸ hs') hs
    · exact absurd (e ▸ ho) (hl k k1 kj).1
    · exact absurd (e ▸ hr) (hl k k1 kj).2
  · rcases (hu op hop).2 b hb with ⟨hs', _⟩ | ⟨ho, _⟩ | ⟨_, hr, _⟩
    · exact absurd (e ▸ hs') hs
    · exact absurd (e ▸ ho) (hl k k1 kj)
    · rw [hr] at hw; cases hw
  · refine noRace_append (h.nr said) (fun op hop => (hu op hop).1) (fun i x ha op hop b hb hc => ?_)
    have hm : b.loc.isMemory = true := by rw [← hc.1]; exact hc.2.1
    rcases (hu op hop).2 b hb with ⟨hs, hk, hn⟩ | ⟨ho, _⟩ | ⟨hr, hbw, _⟩
    · exact h.quiet.known hs hk (fun e => absurd e hn) i x ha hc
    · exact h.own k k1 kj b.loc hm ho i x ha hc.1
    · exact h.rd k k1 kj b.loc hm hr i x ha hc.1 (hc.2.2.1.resolve_right (by simp [hbw]))
  · rcases Array.mem_append.1 hop with h1 | h1
    · exact h.gs op h1
    · rw [(hu op h1).1]; exact kj
  · rcases (hu op hop).2 x hx with ⟨hs, _⟩ | ⟨_, hn⟩ | ⟨_, _, hn⟩
    · exact hs
    · exact absurd hk hn
    · exact absurd hk hn
theorem CJ.appMute (h : CJ s0 Sh Own Rd a t N) {k : Nat} (hk : k < N) (hu : ∀ op ∈ u, op.g = k) (hn : ∀ op ∈ u, op.act.touch? = none) (hr : ∀ op ∈ u, op.act ≠ .mark (.release a)) : CJ s0 Sh Own Rd a (t ++ u) N := by
  have no : ∀ op ∈ u, ∀ b, op.act.touch? = some b → False := fun op hop b hb => by rw [hn op hop] at hb; cases hb
  exact ⟨h.quiet.app fun op hop x hx _ => (no op hop x hx).elim, fun k' k1' kj' l hm hl => (h.own k' k1' kj' l hm hl).app fun op hop b hb e => (no op hop b hb).elim, fun k' k1' kj' l hm hl => (h.rd k' k1' kj' l hm hl).app fun op hop b hb e hw => (no op hop b hb).elim,
    fun l hm hs hl => (h.free l hm hs hl).app fun op hop b hb e => (no op hop b hb).elim, fun l hm hs hl => (h.mine l hm hs hl).app fun op hop b hb e hw => (no op hop b hb).elim, fun said => noRace_append (h.nr said) hu fun i x ha op hop b hb hc => (no op hop b hb).elim, fun op hop => (Array.mem_append.1 hop).elim (h.gs op) fun h1 => by rw [hu op h1]; exact hk,
    Gw h fun op hop b hb => (no op hop b hb).elim, Gv h fun op hop _ x hx hk => (no op hop x hx).elim, Wn h fun op hop b hb => (no op hop b hb).elim, Ul h.norel hr⟩
theorem CJ.grow {Own' : Nat → Loc → Prop} (h : CJ s0 Sh Own Rd a t N) (hm : ∀ k l, Own k l → Own' k l) (hn : ∀ k l, Own' k l → Own k l ∨ ∀ i x, touchAt t i = some x → x.loc ≠ l) : CJ s0 Sh Own' Rd a t N := by
  refine ⟨h.quiet, fun k k1 kj l hmem hl => ?_, h.rd, fun l hmem hs hl => ?_, fun l hmem hs hl => ?_, h.nr, h.gs, h.old, h.new, h.over, h.norel⟩
  · rcases hn k l hl with h1 | h1
    · exact h.own k k1 kj l hmem h1
    · exact fun i x hx e => absurd e (h1 i x hx)
  · exact h.free l hmem hs fun k k1 kj => ⟨fun ho => (hl k k1 kj).1 (hm k l ho), (hl k k1 kj).2⟩
  · exact h.mine l hmem hs fun k k1 kj ho => hl k k1 kj (hm k l ho)
theorem CJ.fork (A : Apart s0 Sh Own Rd) (hs : s0 ≤ N) (h : CJ s0 Sh Own Rd a t N) {x y : MemOp} (hx : x.g = 0 ∧ x.act = .go N) (hy : y.g = N ∧ y.act = .start) (h0 : Deaf t 0 = 0) (hp : 1 ≤ N) : CJ s0 Sh Own Rd a (t ++ #[x, y]) (N + 1) := by
  have hk : Deaf t N = 0 := Deaf_absent fun i op hi e => by have := h.gs op (Array.mem_of_getElem? hi); omega
  have hnt : ∀ op ∈ #[x, y], ∀ b, op.act.touch? = some b → False := by
    intro op hop b hb
    simp only [List.mem_toArray, List.mem_cons, List.not_mem_nil, or_false] at hop
    rcases hop with rfl | rfl
    · rw [hx.2] at hb; cases hb
    · rw [hy.2] at hb; cases hb
  have old : ∀ {i : Nat} {b : Touch}, touchAt (t ++ #[x, y]) i = some b → touchAt t i = some b := by
    intro i b hb
    obtain ⟨z, hz, hza⟩ := touch_of hb
    rcases getElem?_append_cases hz with ⟨_, hz'⟩ | ⟨_, hzu⟩
    · rw [touchAt_of hz']; exact hza
    · exact (hnt z hzu b hza).elim
  refine ⟨h.quiet.app fun op hop b hb _ => (hnt op hop b hb).elim, fun k k1 kj l hm hl => ?_, fun k k1 kj l hm hl => ?_,
    fun l hm hs' hl => (h.free l hm hs' fun k k1 kj => hl k k1 (by omega)).app fun op hop b hb _ => (hnt op hop b hb).elim, fun l hm hs' hl => (h.mine l hm hs' fun k k1 kj => hl k k1 (by omega)).app fun op hop b hb _ _ => (hnt op hop b hb).elim, fun said => ?_, fun op hop => ?_,
    Gw h fun op hop b hb => (hnt op hop b hb).elim, Gv h fun op hop _ b hb _ => (hnt op hop b hb).elim, Wn h fun op hop b hb => (hnt op hop b hb).elim, Ul h.norel fun op hop e => ?_⟩
  · rcases Nat.lt_or_ge k N with hlt | hge
    · exact (h.own k k1 hlt l hm hl).app fun op hop b hb _ => (hnt op hop b hb).elim
    · obtain rfl : k = N := by omega
      exact fun i b ha e => fork_knows hx hy h0 hk (h.free l hm (A.ownSh _ l k1 hl) (fun k' k1' k'j => ⟨fun ho => by have := A.own _ _ l k1' k1 ho hl; omega, A.ownRd _ _ l k1 k1' hl⟩) i b (old ha) e)
  · rcases Nat.lt_or_ge k N with hlt | hge
    · exact (h.rd k k1 hlt l hm hl).app fun op hop b hb _ _ => (hnt op hop b hb).elim
    · obtain rfl : k = N := by omega
      exact fun i b ha e hw => fork_knows hx hy h0 hk (h.mine l hm (A.rdSh _ l k1 hl) (fun k' k1' _ ho => A.ownRd _ _ l k1' k1 ho hl) i b (old ha) e hw)
  · have e : t ++ #[x, y] = (t ++ #[x]) ++ #[y] := by apply Array.ext'; simp
    rw [e]
    refine noRace_append (g := N) (noRace_append (g := 0) (h.nr said) (fun op hop => by simp at hop; rw [hop]; exact hx.1) (fun i b _ op hop c hc _ => (hnt op (by simp at hop ⊢; exact .inl hop) c hc).elim))
      (fun op hop => by simp at hop; rw [hop]; exact hy.1) (fun i b _ op hop c hc _ => (hnt op (by simp at hop ⊢; exact .inr hop) c hc).elim)
  · rcases Array.mem_append.1 hop with h1 | h1
    · exact Nat.lt_succ_of_lt (h.gs op h1)
    · simp only [List.mem_toArray, List.mem_cons, List.not_mem_nil, or_false] at h1
      rcases h1 with rfl | rfl
      · rw [hx.1]; omega
      · rw [hy.1]; omega
  · simp only [List.mem_toArray, List.mem_cons, List.not_mem_nil, or_false] at hop
    rcases hop with rfl | rfl
    · rw [hx.2] at e; cases e
    · rw [hy.2] at e; cases e
end
end Go.CJ
end
section
namespace Go.CJ
open Go.Conc Go.ConcN
set_option linter.unusedVariables false
set_option linter.unusedSimpArgs false
set_option linter.unusedSectionVars false
section
variable {s0 N B : Nat} {Sh Shun : Loc → Prop} {Own Rd : Nat → Loc → Prop} {a : Addr} {t u : Trace}
theorem Lp {x : MemAct} {y : Touch} (h : x.touch? = some y) (hl : x.low B) : y.loc.low B := by
  cases x with
  | access e => simp only [MemAct.touch?, Option.some.injEq] at h; subst h; exact hl
  | mark m => cases m <;> simp only [MemAct.touch?, Option.some.injEq, reduceCtorEq] at h <;> (subst h; exact hl)
  | _ => cases h
theorem touchAt_low (hl : ∀ op ∈ t, op.act.low B) {i : Nat} {x : Touch} (h : touchAt t i = some x) : x.loc.low B := by
  obtain ⟨op, ho, hx⟩ := touch_of h
  exact Lp hx (hl op (Array.mem_of_getElem? ho))
theorem Fa (hg : ∀ op ∈ t, op.g < N) {i g : Nat} (h : t.g? i = some g) : g < N := by
  obtain ⟨op, ho, rfl⟩ := Option.map_eq_some_iff.1 h
  exact hg op (Array.mem_of_getElem? ho)
theorem CJ.start (hP : Past Shun B t) (hq : Quiet Shun t) (hg : ∀ op ∈ t, op.g < s0) (h1 : ∀ l, Sh l → Shun l ∨ ¬ l.low B) (h2 : ∀ l, Shun l → Sh l) (ha : B ≤ a.block) : CJ s0 Sh Own Rd a t s0 := by
  have kn : ∀ l, l.isMemory = true → ¬ Sh l → Perm t 0 l := fun l hm hs i x hx e => by
    subst e
    exact (hP.known i x hx hm).resolve_right fun h => hs (h2 _ h.1)
  refine ⟨fun i op x hi hx hs => ?_, fun k k1 kj => by omega, fun k k1 kj => by omega, fun l hm hs _ => kn l hm hs, fun l hm hs _ => PermW.of (kn l hm hs), hP.clean, hg, fun i x g hx hm hgi _ => (hP.known i x hx hm).imp id fun h => ⟨h2 _ h.1, h.2⟩, fun i x g hx hgi hs => ?_, fun i g hgi hne _ hc => hP.over i g hgi hne hc, fun i e => ?_⟩
  · rcases h1 _ hs with h | h
    · exact hq i op x hi hx h
    · exact absurd (Lp hx (hP.seen op (Array.mem_of_getElem? hi))) h
  · have := Fa hg hgi; omega
  · unfold Trace.act? at e
    obtain ⟨op, ho, ha'⟩ := Option.map_eq_some_iff.1 e
    have := hP.seen op (Array.mem_of_getElem? ho)
    rw [ha'] at this
    have : a.block < B := this
    omega
theorem CJ.past (h : CJ s0 Sh Own Rd a t N) (hl : ∀ op ∈ t, op.act.low B) (hd : Deaf t 0 = 0) {q : Nat} (hall : ∀ k, s0 ≤ k → k < N → ∃ r, RelBy a t k r ∧ r < q)
    (hq : t.act? q = some (.mark (.acquire a))) (hg : t.g? q = some 0) (hh : t.heard q) (hs0 : 1 ≤ s0) : Past Sh B t := by
  have edge : ∀ {k r : Nat}, RelBy a t k r → r < q → HappensBefore t r q := fun hr hrq => .single (.inr ⟨.marked hrq (.inr hr.act) hq (fun k _ _ => h.norel k), hr.heard, hh⟩)
  have before : ∀ {k r i : Nat}, RelBy a t k r → r < q → t.g? i = some k → i ≤ r → HappensBefore t i q := fun {k r i} hr hrq hi hle => by
    rcases Nat.lt_or_ge i r with hlt | hge
    · exact .trans (.single (.inl ⟨hlt, k, hi, hr.g⟩)) (edge hr hrq)
    · obtain rfl : i = r := by omega
      exact edge hr hrq
  obtain ⟨z, hz, hzg⟩ := Option.map_eq_some_iff.1 hg
  refine ⟨h.nr, fun i x hx hm => ?_, fun i g hgi hne hc => ?_, hd, hl⟩
  · obtain ⟨op, ho, hox⟩ := touch_of hx
    have hgi : t.g? i = some op.g := by unfold Trace.g?; rw [ho]; rfl
    rcases Nat.lt_or_ge op.g s0 with hlt | hge
    · exact h.old i x op.g hx hm hgi hlt
    · obtain ⟨r, hr, hrq⟩ := hall op.g hge (Fa h.gs hgi)
      by_cases hc : t.counts i
      · have hle : i ≤ r := Nat.le_of_not_lt fun hlt => hr.after i hlt hgi hc
        exact Or.inl ⟨q, z, hz, hzg, .inr (before hr hrq hgi hle)⟩
      · have hk : x.kind = .atomic := Classical.byContradiction fun hk => hc ⟨x, hx, hm, .inl hk⟩
        exact Or.inr ⟨h.new i x op.g hx hgi hge hk, hk⟩
  · rcases Nat.lt_or_ge g s0 with hlt | hge
    · exact h.over i g hgi hne hlt hc
    · obtain ⟨r, hr, hrq⟩ := hall g hge (Fa h.gs hgi)
      exact ⟨q, hg, before hr hrq hgi (Nat.le_of_not_lt fun hlt => hr.after i hlt hgi hc)⟩
end
end Go.CJ
end
section
namespace Go.Dw.J
open Go.Dw Go.RowKit
open Go.Conc (G crowd Goes Deaf QuitsD woken awake woken_run woken_quitsD Aside)
open Go.ConcR (KK WgAt stA smA Payload DC0)
open Go.ConcN (RW DWs AtR0 AtK1 AtD1 AtD2 AtD3 AtD4 WgLive Has RelBy PayAt AsideCell upd upd_same upd_ne)
set_option linter.unusedVariables false
set_option linter.unusedSimpArgs false
set_option linter.unusedSectionVars false
theorem Fits.status [Comp] {P : Program} {Stop : Goroutine → World → Prop} (hs : ∀ g A, Stop g A → g.status = .running) {T : Tree} {g : Goroutine} {A : World} (h : Fits P Stop T g A) : g.status = .running := by
  cases T with
  | stop => exact hs _ _ h
  | node k => exact h.1
theorem J2 {P : Program} {main : Bool} {R : World → World → Prop} {D : World → World → Array Event → Prop} {Stop : Goroutine → World → Prop} (hR : ∀ w, R w w) (hs : ∀ g w, Stop g w → g.status = .running) {m : Nat} {g : Goroutine} {w : World} (h : Goes P main R D Stop m g w) : g.status = .running := by
  cases m with
  | zero => exact hs _ _ (h w (hR w))
  | succ m => exact h.elim (fun h => hs _ _ (h w (hR w))) (fun h => h.1)
structure Ph where
  P : Program
  Post : Value → World → Prop
  ty : TypeId
  n : Nat
  C : Nat
  sz : Nat
  TT : TypeId
  Out : Nat → List Value → World → Prop
  Wg : Nat
  s0 : Nat
  Shun : Loc → Prop
  A0 : World
  W0 : World
structure WS where
  stage : Nat
  tr : Tree
  A : World
  AR : World
  row : List Value
  ob : Nat → Prop
  bx : Nat
  val : Value
section
variable [Payload] (ph : Ph)
def Ph.N0 : Nat := ph.Wg + 1
def ShP (l : Loc) : Prop := ph.Shun l ∨ inBlk ph.Wg l
def OwnP (D : Nat → WS) (k : Nat) (l : Loc) : Prop := (∃ b, inBlk b l ∧ (D k).ob b) ∨ ∃ j, j < ph.sz ∧ l = .cell ⟨ph.C, (k - ph.s0) * ph.sz + j, none⟩
def RdP (_ : Nat) (l : Loc) : Prop := ∃ b, inBlk b l ∧ b < ph.Wg ∧ b ≠ ph.C ∧ Seen ph.A0 b
def StopW (bx : Nat) (val : Value) (g : Goroutine) (A : World) : Prop :=
  g0 A = 1 ∧ g.status = .running ∧ ∀ w, WgLive ph.ty ph.Wg w ∧ Has bx 0 val w → ∃ m, Goes ph.P false (RW ph.ty ph.Wg bx 1 0 0) DC0 (AtR0 ph.P ph.ty ph.Wg bx 1 0 1 val) m g w
def FitsW (k : Nat) (x : WS) (g : Goroutine) (A : World) : Prop :=
  @Fits (compW ph.C ph.n ph.sz (k - ph.s0) ph.TT (ph.Out (k - ph.s0)) x.bx x.val Payload.ety) ph.P (StopW ph x.bx x.val) x.tr g A
inductive Sit (k : Nat) (x : WS) : Nat → Goroutine → World → Nat → Prop
  | go {g : Goroutine} {w : World} : FitsW ph k x g x.A → Sees x.A w → Rds ph.N0 x.A → ¬ Seen x.A ph.C → ¬ Seen x.A ph.Wg → (g0 x.A = 0 ∨ g0 x.A = 1) → (∀ b, ph.N0 ≤ b → Seen x.A b → x.ob b) → (∀ b, b < ph.N0 → Seen x.A b → Seen ph.A0 b) → Sit k x 8 g w 0
  | r0 {g : Goroutine} {w : World} {m : Nat} : x.tr = chain m → Goes ph.P false (RW ph.ty ph.Wg x.bx 1 0 0) DC0 (AtR0 ph.P ph.ty ph.Wg x.bx 1 0 1 x.val) m g w → Sit k x 7 g w 0
  | k1 {g : Goroutine} {w : World} {m : Nat} : x.tr = chain m → Goes ph.P false (RW ph.ty ph.Wg x.bx 1 0 0) DC0 (AtK1 ph.P ph.ty ph.Wg x.bx 1 0 1) m g w → Sit k x 6 g w 0
  | d1 {g : Goroutine} {w : World} {m : Nat} : x.tr = chain m → Goes ph.P false (RW ph.ty ph.Wg x.bx 1 0 0) DC0 (AtD1 ph.P ph.ty ph.Wg x.bx 1 0 1) m g w → Sit k x 5 g w 1
  | d2 {g : Goroutine} {w : World} {m : Nat} : x.tr = chain m → Goes ph.P false (RW ph.ty ph.Wg x.bx 1 0 0) DC0 (AtD2 ph.P ph.ty ph.Wg x.bx 1 0 1) m g w → Sit k x 4 g w 1
  | d3 {g : Goroutine} {w : World} {m : Nat} : x.tr = chain m → Goes ph.P false (RW ph.ty ph.Wg x.bx 1 0 0) DC0 (AtD3 ph.P ph.ty ph.Wg x.bx 1 0 1) m g w → Sit k x 3 g w 1
  | d4 {g : Goroutine} {w : World} {m : Nat} : x.tr = chain m → Goes ph.P false (RW ph.ty ph.Wg x.bx 1 0 0) DC0 (AtD4 ph.P ph.ty ph.Wg) m g w → Sit k x 2 g w 1
  | quit {g : Goroutine} {w : World} {m d : Nat} : x.tr = chain m → QuitsD ph.P m d g → Sit k x 1 g w d
structure Rec (k : Nat) (x : WS) (w : World) : Prop where
  sees : Sees x.AR w
  rds : Rds ph.N0 x.AR
  noC : ¬ Seen x.AR ph.C
  noWg : ¬ Seen x.AR ph.Wg
  out : ph.Out (k - ph.s0) x.row x.AR
  len : x.row.length = ph.sz
  laid : ∀ j v, x.row[j]? = some v → w.cell? ⟨ph.C, (k - ph.s0) * ph.sz + j, none⟩ = some v
  ob : ∀ b, ph.N0 ≤ b → Seen x.AR b → x.ob b
  fresh : x.stage = 8 → ∀ b, Seen x.A b → x.AR.heap.size ≤ b
  box : x.stage = 8 → w.heap[x.bx]? = some (.cells #[x.val] Payload.ety (0, 0)) ∧ ¬ Seen x.A x.bx
  nobx : ¬ Seen x.AR x.bx
  low0 : ∀ b, b < ph.N0 → Seen x.AR b → Seen ph.A0 b
end
section
variable [Payload] {ph : Ph} {k : Nat} {x : WS} {s d : Nat} {g : Goroutine} {w w' : World}
theorem Sit.status (h : Sit ph k x s g w d) : g.status = .running ∨ (s = 1 ∧ g.status = .finished) := by
  cases h with
  | go h => exact .inl (@Fits.status (compW ph.C ph.n ph.sz (k - ph.s0) ph.TT (ph.Out (k - ph.s0)) x.bx x.val Payload.ety) _ _ (fun _ _ h => h.2.1) _ _ _ h)
  | r0 _ h => exact .inl (J2 RW.refl (fun _ _ h => h.1) h)
  | k1 _ h => exact .inl (J2 RW.refl (fun _ _ h => h.1) h)
  | d1 _ h => exact .inl (J2 RW.refl (fun _ _ h => h.1) h)
  | d2 _ h => exact .inl (J2 RW.refl (fun _ _ h => h.1) h)
  | d3 _ h => exact .inl (J2 RW.refl (fun _ _ h => h.1) h)
  | d4 _ h => exact .inl (J2 RW.refl (fun _ _ h => h.1) h)
  | quit _ h => exact h.status.imp id fun h => ⟨rfl, h⟩
theorem Sit.woken (h : Sit ph k x s g w d) {a a' : Goroutine} : Go.Conc.woken ph.P a a' w' g = g := by
  unfold Go.Conc.woken
  split
  · exact Go.Conc.again_running _ (h.status.imp id fun h => h.2)
  · rfl
theorem Sit.other (h : Sit ph k x s g w d) (ho : w'.os = w.os) (hp : w'.output = w.output) (hs : w.heap.size ≤ w'.heap.size) (hlo : ∀ b, b < ph.N0 → b ≠ ph.C → b ≠ ph.Wg → w'.heap[b]? = w.heap[b]?) (hob : ∀ b, ph.N0 ≤ b → b < w.heap.size → x.ob b → w'.heap[b]? = w.heap[b]?)
    (hl : WgLive ph.ty ph.Wg w → WgLive ph.ty ph.Wg w') (hbx : s ≠ 1 → s ≠ 8 → w'.heap[x.bx]? = w.heap[x.bx]?) : Sit ph k x s g w' d := by
  have hR : s ≠ 1 → s ≠ 8 → RW ph.ty ph.Wg x.bx 1 0 0 w w' := fun h1 h8 => ⟨fun b hb => by omega, hl, fun ⟨cs, h2, h3⟩ => ⟨cs, (hbx h1 h8).trans h2, h3⟩, Go.ConcN.cell_of_block (hbx h1 h8) 0⟩
  have tr : ∀ a b c, RW ph.ty ph.Wg x.bx 1 0 0 a b → RW ph.ty ph.Wg x.bx 1 0 0 b c → RW ph.ty ph.Wg x.bx 1 0 0 a c := fun _ _ _ => RW.trans
  cases h with
  | go h1 h2 h3 h4 h5 h6 h7 h8 =>
    refine .go h1 (h2.still ho hp hs fun b hb => ?_) h3 h4 h5 h6 h7 h8
    rcases Nat.lt_or_ge b ph.N0 with hlt | hge
    · exact hlo b hlt (fun e => h4 (e ▸ hb)) (fun e => h5 (e ▸ hb))
    · exact hob b hge (Nat.lt_of_lt_of_le hb.1 h2.size) (h7 b hge hb)
  | r0 e h => exact .r0 e (h.rely tr (hR (by omega) (by omega)))
  | k1 e h => exact .k1 e (h.rely tr (hR (by omega) (by omega)))
  | d1 e h => exact .d1 e (h.rely tr (hR (by omega) (by omega)))
  | d2 e h => exact .d2 e (h.rely tr (hR (by omega) (by omega)))
  | d3 e h => exact .d3 e (h.rely tr (hR (by omega) (by omega)))
  | d4 e h => exact .d4 e (h.rely tr (hR (by omega) (by omega)))
  | quit e h => exact .quit e h
theorem Rec.other (h : Rec ph k x w) (ho : w'.os = w.os) (hp : w'.output = w.output) (hs : w.heap.size ≤ w'.heap.size) (hlo : ∀ b, b < ph.N0 → b ≠ ph.C → b ≠ ph.Wg → w'.heap[b]? = w.heap[b]?) (hob : ∀ b, ph.N0 ≤ b → b < w.heap.size → x.ob b → w'.heap[b]? = w.heap[b]?)
    (hC : ∀ j v, x.row[j]? = some v → w'.cell? ⟨ph.C, (k - ph.s0) * ph.sz + j, none⟩ = w.cell? ⟨ph.C, (k - ph.s0) * ph.sz + j, none⟩) (hbx : x.stage = 8 → w'.heap[x.bx]? = w.heap[x.bx]?) : Rec ph k x w' := by
  refine ⟨h.sees.still ho hp hs fun b hb => ?_, h.rds, h.noC, h.noWg, h.out, h.len, fun j v hj => (hC j v hj).trans (h.laid j v hj), h.ob, h.fresh, fun e => ⟨(hbx e).trans (h.box e).1, (h.box e).2⟩, h.nobx, h.low0⟩
  rcases Nat.lt_or_ge b ph.N0 with hlt | hge
  · exact hlo b hlt (fun e => h.noC (e ▸ hb)) (fun e => h.noWg (e ▸ hb))
  · exact hob b hge (Nat.lt_of_lt_of_le hb.1 h.sees.size) (h.ob b hge hb)
end
end Go.Dw.J
end
section
namespace Go.Dw.J
open Go.Dw Go.RowKit
open Go.Conc (G crowd Goes Deaf QuitsD woken awake woken_run woken_quitsD Aside Deaf_other Deaf_own)
open Go.ConcR (KK WgAt stA smA Payload DC0)
open Go.ConcN (RW DWs AtR0 AtK1 AtD1 AtD2 AtD3 AtD4 WgLive Has RelBy PayAt AsideCell upd upd_same upd_ne)
open Go.CJ (CJ OkW Ok0)
set_option linter.unusedVariables false
set_option linter.unusedSimpArgs false
set_option linter.unusedSectionVars false
theorem J3 {b b' : Nat} {l : Loc} (h : inBlk b l) (h' : inBlk b' l) : b = b' := by
  cases l with
  | cell a => exact h.symm.trans h'
  | obj r => exact h.symm.trans h'
  | _ => exact h.elim
theorem S3 {B b : Nat} {l : Loc} (h : inBlk b l) (hl : l.low B) : b < B := by
  cases l with
  | cell a => cases h; exact hl
  | obj r => cases h; exact hl
  | _ => exact h.elim
structure Geo (ph : Ph) : Prop where
  CW : ph.C < ph.Wg
  seenC : Seen ph.A0 ph.C
  size : ph.A0.heap.size = ph.Wg
  shun : ∀ l b, ph.Shun l → inBlk b l → b < ph.Wg ∧ ¬ Seen ph.A0 b
  lies : ∀ l, ph.Shun l → ∃ b, inBlk b l
  nv : ∀ (b : Nat) (at_ : Addr) (u : TypeId), ph.A0.heap[b]? ≠ some (.view at_ u)
  mono : ∀ i vs (B B' : World), (∀ b T c, Seen B b → RBlk B b T c → RBlk B' b T c) → ph.Out i vs B → ph.Out i vs B'
structure Com [Payload] (ph : Ph) (gs : Array Goroutine) (w : World) (t : Trace) (D : Nat → WS) : Prop where
  s1 : 1 ≤ ph.s0
  szl : ph.s0 ≤ gs.size
  szu : gs.size ≤ ph.s0 + ph.n
  wk : ∀ k, 1 ≤ k → k < gs.size → ∃ g, gs[k]? = some g ∧ Sit ph k (D k) (D k).stage g w (Deaf t k)
  old : ∀ k, 1 ≤ k → k < ph.s0 → (D k).stage = 1
  nob : ∀ k, k < ph.s0 ∨ gs.size ≤ k → ∀ b, ¬ (D k).ob b
  rcd : ∀ k, ph.s0 ≤ k → k < gs.size → ((D k).stage ≠ 8 ∨ g0 (D k).A = 1) → Rec ph k (D k) w
  rel : ∀ k, ph.s0 ≤ k → k < gs.size → (D k).stage ≤ 6 → ∃ r, RelBy (stA ph.Wg) t k r
  obl : ∀ k b, (D k).ob b → ph.N0 ≤ b ∧ b < w.heap.size
  oba : ∀ k k' b, k ≠ k' → (D k).ob b → ¬ (D k').ob b
  bxo : ∀ k, ph.s0 ≤ k → k < gs.size → (D k).ob (D k).bx
  cells : ph.n ≠ 0 → ∃ cs, w.heap[ph.C]? = some (.cells cs ph.TT (0, 0)) ∧ cs.size = ph.n * ph.sz
  live : WgLive ph.ty ph.Wg w
  vis0 : ∀ b, b < ph.Wg → b ≠ ph.C → Vis ph.A0.heap[b]? w.heap[b]?
  os0 : ph.A0.os = w.os
  out0 : ph.A0.output = w.output
  ct : CJ ph.s0 (ShP ph) (OwnP ph D) (RdP ph) (stA ph.Wg) t gs.size
  above : ∀ k, gs.size ≤ k → Deaf t k = 0
  low : ∀ op ∈ t, op.act.low w.heap.size
  same : ∀ b, b < ph.Wg → b ≠ ph.C → w.heap[b]? = ph.W0.heap[b]?
section
variable [Payload] {ph : Ph} {gs : Array Goroutine} {w w' : World} {t : Trace} {D : Nat → WS}
theorem Ng {sz a a' j j' : Nat} (hj : j < sz) (hj' : j' < sz) (e : a * sz + j = a' * sz + j') : a = a' := by
  have h1 : (a * sz + j) / sz = a := by rw [Nat.add_comm, Nat.add_mul_div_right _ _ (by omega), Nat.div_eq_of_lt hj, Nat.zero_add]
  have h2 : (a' * sz + j') / sz = a' := by rw [Nat.add_comm, Nat.add_mul_div_right _ _ (by omega), Nat.div_eq_of_lt hj', Nat.zero_add]
  rw [← h1, e, h2]
end
end Go.Dw.J
end
