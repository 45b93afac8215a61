/- Laws and walks: my templates, and what a program of mine (gen.py) printed out of the functions; only what the row reaches. -/
import Derived.Test.YtldnkinaedgnpaaVE2
section
namespace Go.Dw.J
open Go.RowKit Go.Dw Go.Proofs
set_option linter.unusedSectionVars false
set_option maxRecDepth 100000
set_option maxHeartbeats 4000000
set_option linter.unusedSimpArgs false
set_option linter.unusedVariables false
theorem Pk [Comp] (k to : Int) (l : Lab) (hk : ((decide (k = 2)) || (decide (k = 3))) = false) (hok : newOk k l to = false) (w : World) : CallsR Try.prog 17 #[.int .i64 k, .agg #[.int .i64 l.s, .int .i64 l.v], .int .i64 to] w (fun v w' => v = .tuple #[.agg #[.int .i64 0, .int .i64 0, .int .i64 0, .int .i64 0, .int .i64 0, .slice none 0 0, .slice none 0 0, .int .i64 0], .bool false] ∧ w.grownBy w' none) := by
 refine Xl (n := 27) Try.func17 rfl Try.ntmps17 rfl ?_
 have hb0 := World.grownBy.refl w none
 have hlit : thingOk (⟨k, l, 0, 0, [], [], to⟩ : Th) = false := (Uq hk).symm.trans hok
 have h101 : decide (k = 2) = false := Vn hk
 have h102 : decide (k = 3) = false := Vo hk
 refine Xa ?_
 refine wpo_box (v := .agg #[.int .i64 l.s, .int .i64 l.v]) (cs := #[.int .i64 l.s, .int .i64 l.v]) rfl rfl rfl ?_
 intro B103 w104 hN105
 have hlB103 := Xv hN105 hb0
 have hb106 := low0 hb0 hN105.grw
 refine wpo_alloc (cs := #[.int .i64 0, .int .i64 0, .int .i64 0, .int .i64 0, .int .i64 0, .slice none 0 0, .slice none 0 0, .int .i64 0]) Jd rfl rfl ?_
 intro B107 w108 hN109
 have hlB107 := Xv hN109 hb106
 have lt_B103_B107 := Xr hN109 (hN105.blk).lt
 have hb110 := low0 hb106 hN109.grw
 refine wpo_assign (v := .bool false) rfl rfl ?_
 refine wpo_nil ?_
 refine Xa ?_
 refine wpo_move (v := .int .i64 k) rfl rfl ?_
 have k111 := (hN105.blk.grown0 hN109.grw)
 refine wpo_loadn (vs := [.int .i64 l.s, .int .i64 l.v]) Qg rfl rfl (k111.rangeL 0 2 rfl) rfl ?_
 refine wpo_move (v := .int .i64 to) rfl rfl ?_
 refine wpo_build (ps := [(0, .int .i64 k), (1, .agg #[.int .i64 l.s, .int .i64 l.v]), (6, .int .i64 to)]) (v := .agg #[.int .i64 k, .int .i64 l.s, .int .i64 l.v, .int .i64 0, .int .i64 0, .slice none 0 0, .slice none 0 0, .int .i64 to]) (Xw rfl (Xw rfl (Xw rfl X9))) (fun _ => by kernel_rfl) rfl ?_
 refine wpo_alloc (cs := #[.int .i64 0, .int .i64 0, .int .i64 0, .int .i64 0, .int .i64 0, .slice none 0 0, .slice none 0 0, .int .i64 0]) Jd rfl rfl ?_
 intro B112 w113 hN114
 have hlB112 := Xv hN114 hb110
 have lt_B103_B112 := Xr hN114 (k111).lt
 have lt_B107_B112 := Xr hN114 (hN109.blk).lt
 have hb115 := low0 hb110 hN114.grw
 refine wpo_storen (vs := [.int .i64 k, .int .i64 l.s, .int .i64 l.v, .int .i64 0, .int .i64 0, .slice none 0 0, .slice none 0 0, .int .i64 to]) (cs' := #[.int .i64 k, .int .i64 l.s, .int .i64 l.v, .int .i64 0, .int .i64 0, .slice none 0 0, .slice none 0 0, .int .i64 to]) X5 rfl rfl rfl (by simp [Value.oneCell']) hN114.blk (Nat.le_of_ble_eq_true rfl) rfl ?_
 intro w116 hS117
 have hb118 := low1 hb115 hS117.grw (by omega)
 refine wpo_nil ?_
 refine Xh ?_
 refine Xa ?_
 refine wpo_move (v := .int .i64 k) rfl rfl ?_
 refine wpo_eql (q := decide (k = 2)) rfl rfl rfl rfl ?_
 refine wpo_move (v := .bool (decide (k = 2))) rfl rfl ?_
 refine Xb rfl rfl rfl h101 ?_
 refine wpo_move (v := .int .i64 k) rfl rfl ?_
 refine Xb rfl rfl rfl h101 ?_
 refine wpo_eql (q := decide (k = 3)) rfl rfl rfl rfl ?_
 refine wpo_pickf (v := .bool (decide (k = 3))) rfl h101 rfl rfl ?_
 refine wpo_nil ?_
 refine X8 rfl h102 ?_
 refine Xm ?_
 refine Xo ?_
 refine Xh ?_
 refine Xa ?_
 refine wpo_loadn (vs := [.int .i64 k, .int .i64 l.s, .int .i64 l.v, .int .i64 0, .int .i64 0, .slice none 0 0, .slice none 0 0, .int .i64 to]) X5 rfl rfl (hS117.blk.rangeL 0 8 rfl) rfl ?_
 refine Xi (vs := [.agg #[.int .i64 k, .int .i64 l.s, .int .i64 l.v, .int .i64 0, .int .i64 0, .slice none 0 0, .slice none 0 0, .int .i64 to]]) P3 (Xc rfl Xg) rfl (Ve (⟨⟨k, l, 0, 0, [], [], to⟩, none, 0, none, 0⟩ : MTh) _ SlAt.nil SlAt.nil (by first | omega | exact Nat.le_of_ble_eq_true rfl | (simp only [List.length_nil, List.length_cons, List.length_append, List.length_replicate]; omega)) (by first | omega | exact Nat.le_of_ble_eq_true rfl | (simp only [List.length_nil, List.length_cons, List.length_append, List.length_replicate]; omega))) ?_
 rintro _ w119 ⟨rfl, hg120⟩
 have hb121 := low0 hb118 hg120
 refine wpo_not (b' := !thingOk (⟨k, l, 0, 0, [], [], to⟩ : Th)) rfl rfl rfl ?_
 refine wpo_nil ?_
 refine Yb rfl (Qn hlit) ?_
 refine Xa ?_
 refine wpo_build (ps := []) (v := .agg #[.int .i64 0, .int .i64 0, .int .i64 0, .int .i64 0, .int .i64 0, .slice none 0 0, .slice none 0 0, .int .i64 0]) X9 (fun _ => by kernel_rfl) rfl ?_
 have k122 := (((hN109.blk.grown0 hN114.grw).gn hS117.grw).grown0 hg120)
 refine wpo_storen (vs := [.int .i64 0, .int .i64 0, .int .i64 0, .int .i64 0, .int .i64 0, .slice none 0 0, .slice none 0 0, .int .i64 0]) (cs' := #[.int .i64 0, .int .i64 0, .int .i64 0, .int .i64 0, .int .i64 0, .slice none 0 0, .slice none 0 0, .int .i64 0]) X5 rfl rfl rfl (by simp [Value.oneCell']) k122 (Nat.le_of_ble_eq_true rfl) rfl ?_
 intro w123 hS124
 have hb125 := low1 hb121 hS124.grw (by omega)
 refine wpo_assign (v := .bool false) rfl rfl ?_
 refine wpo_nil ?_
 refine Xk ?_
 refine Xy ?_
 refine ⟨.tuple #[.agg #[.int .i64 0, .int .i64 0, .int .i64 0, .int .i64 0, .int .i64 0, .slice none 0 0, .slice none 0 0, .int .i64 0], .bool false], resCT rfl (resCell_mk (vs := [.int .i64 0, .int .i64 0, .int .i64 0, .int .i64 0, .int .i64 0, .slice none 0 0, .slice none 0 0, .int .i64 0]) X5 rfl rfl (hS124.blk.rangeL 0 8 rfl)) rfl, rfl, hb125⟩
theorem N3 [Comp] (k to : Int) (l : Lab) (hk : ((decide (k = 2)) || (decide (k = 3))) = true) (hok : newOk k l to = true) (w : World) : CallsR Try.prog 93 #[.int .i64 k, .agg #[.int .i64 l.s, .int .i64 l.v], .int .i64 to] w (fun v w' => ∃ (S sc Q qc : Nat), v = .tuple #[.agg #[.int .i64 k, .int .i64 l.s, .int .i64 l.v, .int .i64 0, .int .i64 0, .slice (some ⟨S, 0, none⟩) 4 sc, .slice (some ⟨Q, 0, none⟩) 0 qc, .int .i64 to], .bool true] ∧ w.heap.size ≤ S ∧ Dw.Own w' S 74 5 sc 4 (zeros4.flatMap Rt.cells) ∧ w.heap.size ≤ Q ∧ Dw.Own w' Q 3 1 qc 0 (([] : List Int).flatMap icell) ∧ S ≠ Q ∧ w.grownBy w' none) := by
 refine Xl (n := 24) Try.func93 rfl Try.ntmps93 rfl ?_
 have hb0 := World.grownBy.refl w none
 have hlit : thingOk (⟨k, l, 0, 0, zeros4, [], to⟩ : Th) = true := (Ur hk).symm.trans hok
 refine Xa ?_
 refine wpo_box (v := .agg #[.int .i64 l.s, .int .i64 l.v]) (cs := #[.int .i64 l.s, .int .i64 l.v]) rfl rfl rfl ?_
 intro B101 w102 hN103
 have hlB101 := Xv hN103 hb0
 have hb104 := low0 hb0 hN103.grw
 refine wpo_alloc (cs := #[.int .i64 0, .int .i64 0, .int .i64 0, .int .i64 0, .int .i64 0, .slice none 0 0, .slice none 0 0, .int .i64 0]) Jd rfl rfl ?_
 intro B105 w106 hN107
 have hlB105 := Xv hN107 hb104
 have lt_B101_B105 := Xr hN107 (hN103.blk).lt
 have hb108 := low0 hb104 hN107.grw
 refine wpo_assign (v := .bool false) rfl rfl ?_
 refine wpo_nil ?_
 refine Xa ?_
 refine wpo_move (v := .int .i64 k) rfl rfl ?_
 have k109 := (hN103.blk.grown0 hN107.grw)
 refine wpo_loadn (vs := [.int .i64 l.s, .int .i64 l.v]) Qg rfl rfl (k109.rangeL 0 2 rfl) rfl ?_
 refine wpo_buildSlice (ps := []) (e := 74) (cs := (([] : List Rt).flatMap Rt.cells).toArray) X9 (fun _ => by kernel_rfl) rfl ?_
 intro B110 w111 hN112
 have hlB110 := Xv hN112 hb108
 have lt_B101_B110 := Xr hN112 (k109).lt
 have lt_B105_B110 := Xr hN112 (hN107.blk).lt
 have hb113 := low0 hb108 hN112.grw
 refine wpo_buildSlice (ps := []) (e := 3) (cs := (([] : List Int).flatMap icell).toArray) X9 (fun _ => by kernel_rfl) rfl ?_
 intro B114 w115 hN116
 have hlB114 := Xv hN116 hb113
 have k117 := (k109.grown0 hN112.grw)
 have lt_B101_B114 := Xr hN116 (k117).lt
 have k118 := (hN107.blk.grown0 hN112.grw)
 have lt_B105_B114 := Xr hN116 (k118).lt
 have lt_B110_B114 := Xr hN116 (hN112.blk).lt
 have hb119 := low0 hb113 hN116.grw
 refine wpo_move (v := .int .i64 to) rfl rfl ?_
 refine wpo_build (ps := [(0, .int .i64 k), (1, .agg #[.int .i64 l.s, .int .i64 l.v]), (4, .slice (some ⟨B110, 0, none⟩) 0 0), (5, .slice (some ⟨B114, 0, none⟩) 0 0), (6, .int .i64 to)]) (v := .agg #[.int .i64 k, .int .i64 l.s, .int .i64 l.v, .int .i64 0, .int .i64 0, .slice (some ⟨B110, 0, none⟩) 0 0, .slice (some ⟨B114, 0, none⟩) 0 0, .int .i64 to]) (Xw rfl (Xw rfl (Xw rfl (Xw rfl (Xw rfl X9))))) (fun _ => by kernel_rfl) rfl ?_
 refine wpo_alloc (cs := #[.int .i64 0, .int .i64 0, .int .i64 0, .int .i64 0, .int .i64 0, .slice none 0 0, .slice none 0 0, .int .i64 0]) Jd rfl rfl ?_
 intro B120 w121 hN122
 have hlB120 := Xv hN122 hb119
 have k123 := (k117.grown0 hN116.grw)
 have lt_B101_B120 := Xr hN122 (k123).lt
 have k124 := (k118.grown0 hN116.grw)
 have lt_B105_B120 := Xr hN122 (k124).lt
 have k125 := (hN112.blk.grown0 hN116.grw)
 have lt_B110_B120 := Xr hN122 (k125).lt
 have lt_B114_B120 := Xr hN122 (hN116.blk).lt
 have hb126 := low0 hb119 hN122.grw
 refine wpo_storen (vs := [.int .i64 k, .int .i64 l.s, .int .i64 l.v, .int .i64 0, .int .i64 0, .slice (some ⟨B110, 0, none⟩) 0 0, .slice (some ⟨B114, 0, none⟩) 0 0, .int .i64 to]) (cs' := #[.int .i64 k, .int .i64 l.s, .int .i64 l.v, .int .i64 0, .int .i64 0, .slice (some ⟨B110, 0, none⟩) 0 0, .slice (some ⟨B114, 0, none⟩) 0 0, .int .i64 to]) X5 rfl rfl rfl (by simp [Value.oneCell']) hN122.blk (Nat.le_of_ble_eq_true rfl) rfl ?_
 intro w127 hS128
 have hb129 := low1 hb126 hS128.grw (by omega)
 refine wpo_nil ?_
 refine Xh ?_
 refine Xa ?_
 refine wpo_move (v := .int .i64 k) rfl rfl ?_
 refine Xi (vs := [.int .i64 k]) Hv (Xc rfl Xg) rfl (Kc k _) ?_
 rintro _ w130 ⟨rfl, hg131⟩
 have hb132 := low0 hb129 hg131
 refine wpo_nil ?_
 refine Yb rfl hk ?_
 refine Xs ?_
 refine wpo_make (g := Rt.cells) (z := Rt.zero) (c := 4) Rb rfl Y3 (by omega) rfl rfl (by omega) (by omega) rfl ?_
 intro B133 w134 hN135
 have hlB133 := Xv hN135 hb132
 have k136 := (((k123.grown0 hN122.grw).gn hS128.grw).grown0 hg131)
 have lt_B101_B133 := Xr hN135 (k136).lt
 have k137 := (((k124.grown0 hN122.grw).gn hS128.grw).grown0 hg131)
 have lt_B105_B133 := Xr hN135 (k137).lt
 have k138 := (((k125.grown0 hN122.grw).gn hS128.grw).grown0 hg131)
 have lt_B110_B133 := Xr hN135 (k138).lt
 have k139 := (((hN116.blk.grown0 hN122.grw).gn hS128.grw).grown0 hg131)
 have lt_B114_B133 := Xr hN135 (k139).lt
 have k140 := (hS128.blk.grown0 hg131)
 have lt_B120_B133 := Xr hN135 (k140).lt
 have hb141 := low0 hb132 hN135.grw
 refine wpo_fieldAddr (o' := 5) Y7 rfl rfl rfl ?_
 have k142 := (k140.grown0 hN135.grw)
 refine wpo_store1 (v := .slice (some ⟨B133, 0, none⟩) 4 4) (cs' := #[.int .i64 k, .int .i64 l.s, .int .i64 l.v, .int .i64 0, .int .i64 0, .slice (some ⟨B133, 0, none⟩) 4 4, .slice (some ⟨B114, 0, none⟩) 0 0, .int .i64 to]) Jl rfl rfl rfl k142 (Nat.le_of_ble_eq_true rfl) rfl ?_
 intro w143 hS144
 have hb145 := low1 hb141 hS144.grw (by omega)
 refine wpo_nil ?_
 refine Xo ?_
 refine Xh ?_
 refine Xa ?_
 refine wpo_loadn (vs := [.int .i64 k, .int .i64 l.s, .int .i64 l.v, .int .i64 0, .int .i64 0, .slice (some ⟨B133, 0, none⟩) 4 4, .slice (some ⟨B114, 0, none⟩) 0 0, .int .i64 to]) X5 rfl rfl (hS144.blk.rangeL 0 8 rfl) rfl ?_
 have k146 := (hN135.blk.gn hS144.grw)
 have k147 := ((k139.grown0 hN135.grw).gn hS144.grw)
 refine Xi (vs := [.agg #[.int .i64 k, .int .i64 l.s, .int .i64 l.v, .int .i64 0, .int .i64 0, .slice (some ⟨B133, 0, none⟩) 4 4, .slice (some ⟨B114, 0, none⟩) 0 0, .int .i64 to]]) P4 (Xc rfl Xg) rfl (K2 (⟨⟨k, l, 0, 0, zeros4, [], to⟩, some ⟨B133, 0, none⟩, 4, some ⟨B114, 0, none⟩, 0⟩ : MTh) _ (Q0 Y3 k146) (Q0 Qb k147) (by first | omega | exact Nat.le_of_ble_eq_true rfl | (simp only [List.length_nil, List.length_cons, List.length_append, List.length_replicate]; omega)) (by first | omega | exact Nat.le_of_ble_eq_true rfl | (simp only [List.length_nil, List.length_cons, List.length_append, List.length_replicate]; omega))) ?_
 rintro _ w148 ⟨rfl, hg149⟩
 have hb150 := low0 hb145 hg149
 refine wpo_not (b' := !thingOk (⟨k, l, 0, 0, zeros4, [], to⟩ : Th)) rfl rfl rfl ?_
 refine wpo_nil ?_
 refine X8 rfl (Jt hlit) ?_
 refine Xm ?_
 refine Xo ?_
 refine Xa ?_
 have k151 := (hS144.blk.grown0 hg149)
 refine wpo_loadn (vs := [.int .i64 k, .int .i64 l.s, .int .i64 l.v, .int .i64 0, .int .i64 0, .slice (some ⟨B133, 0, none⟩) 4 4, .slice (some ⟨B114, 0, none⟩) 0 0, .int .i64 to]) X5 rfl rfl (k151.rangeL 0 8 rfl) rfl ?_
 have k152 := (((k137.grown0 hN135.grw).gn hS144.grw).grown0 hg149)
 refine wpo_storen (vs := [.int .i64 k, .int .i64 l.s, .int .i64 l.v, .int .i64 0, .int .i64 0, .slice (some ⟨B133, 0, none⟩) 4 4, .slice (some ⟨B114, 0, none⟩) 0 0, .int .i64 to]) (cs' := #[.int .i64 k, .int .i64 l.s, .int .i64 l.v, .int .i64 0, .int .i64 0, .slice (some ⟨B133, 0, none⟩) 4 4, .slice (some ⟨B114, 0, none⟩) 0 0, .int .i64 to]) X5 rfl rfl rfl (by simp [Value.oneCell']) k152 (Nat.le_of_ble_eq_true rfl) rfl ?_
 intro w153 hS154
 have hb155 := low1 hb150 hS154.grw (by omega)
 refine wpo_assign (v := .bool true) rfl rfl ?_
 refine wpo_nil ?_
 refine Xk ?_
 have k156 := ((k146.grown0 hg149).gn hS154.grw)
 have k157 := ((k147.grown0 hg149).gn hS154.grw)
 refine ⟨.tuple #[.agg #[.int .i64 k, .int .i64 l.s, .int .i64 l.v, .int .i64 0, .int .i64 0, .slice (some ⟨B133, 0, none⟩) 4 4, .slice (some ⟨B114, 0, none⟩) 0 0, .int .i64 to], .bool true], resCT rfl (resCell_mk (vs := [.int .i64 k, .int .i64 l.s, .int .i64 l.v, .int .i64 0, .int .i64 0, .slice (some ⟨B133, 0, none⟩) 4 4, .slice (some ⟨B114, 0, none⟩) 0 0, .int .i64 to]) X5 rfl rfl (hS154.blk.rangeL 0 8 rfl)) rfl, B133, 4, B114, 0, rfl, hlB133, (Own.rows Y3 k156 (by decide)), hlB114, (Own.rows Qb k157 (by decide)), (Nat.ne_of_gt lt_B114_B133), hb155⟩
theorem N2 [Comp] (k to : Int) (l : Lab) (hk : ((decide (k = 2)) || (decide (k = 3))) = true) (hok : newOk k l to = false) (w : World) : CallsR Try.prog 93 #[.int .i64 k, .agg #[.int .i64 l.s, .int .i64 l.v], .int .i64 to] w (fun v w' => v = .tuple #[.agg #[.int .i64 0, .int .i64 0, .int .i64 0, .int .i64 0, .int .i64 0, .slice none 0 0, .slice none 0 0, .int .i64 0], .bool false] ∧ w.grownBy w' none) := by
 refine Xl (n := 24) Try.func93 rfl Try.ntmps93 rfl ?_
 have hb0 := World.grownBy.refl w none
 have hlit : thingOk (⟨k, l, 0, 0, zeros4, [], to⟩ : Th) = false := (Ur hk).symm.trans hok
 refine Xa ?_
 refine wpo_box (v := .agg #[.int .i64 l.s, .int .i64 l.v]) (cs := #[.int .i64 l.s, .int .i64 l.v]) rfl rfl rfl ?_
 intro B101 w102 hN103
 have hlB101 := Xv hN103 hb0
 have hb104 := low0 hb0 hN103.grw
 refine wpo_alloc (cs := #[.int .i64 0, .int .i64 0, .int .i64 0, .int .i64 0, .int .i64 0, .slice none 0 0, .slice none 0 0, .int .i64 0]) Jd rfl rfl ?_
 intro B105 w106 hN107
 have hlB105 := Xv hN107 hb104
 have lt_B101_B105 := Xr hN107 (hN103.blk).lt
 have hb108 := low0 hb104 hN107.grw
 refine wpo_assign (v := .bool false) rfl rfl ?_
 refine wpo_nil ?_
 refine Xa ?_
 refine wpo_move (v := .int .i64 k) rfl rfl ?_
 have k109 := (hN103.blk.grown0 hN107.grw)
 refine wpo_loadn (vs := [.int .i64 l.s, .int .i64 l.v]) Qg rfl rfl (k109.rangeL 0 2 rfl) rfl ?_
 refine wpo_buildSlice (ps := []) (e := 74) (cs := (([] : List Rt).flatMap Rt.cells).toArray) X9 (fun _ => by kernel_rfl) rfl ?_
 intro B110 w111 hN112
 have hlB110 := Xv hN112 hb108
 have lt_B101_B110 := Xr hN112 (k109).lt
 have lt_B105_B110 := Xr hN112 (hN107.blk).lt
 have hb113 := low0 hb108 hN112.grw
 refine wpo_buildSlice (ps := []) (e := 3) (cs := (([] : List Int).flatMap icell).toArray) X9 (fun _ => by kernel_rfl) rfl ?_
 intro B114 w115 hN116
 have hlB114 := Xv hN116 hb113
 have k117 := (k109.grown0 hN112.grw)
 have lt_B101_B114 := Xr hN116 (k117).lt
 have k118 := (hN107.blk.grown0 hN112.grw)
 have lt_B105_B114 := Xr hN116 (k118).lt
 have lt_B110_B114 := Xr hN116 (hN112.blk).lt
 have hb119 := low0 hb113 hN116.grw
 refine wpo_move (v := .int .i64 to) rfl rfl ?_
 refine wpo_build (ps := [(0, .int .i64 k), (1, .agg #[.int .i64 l.s, .int .i64 l.v]), (4, .slice (some ⟨B110, 0, none⟩) 0 0), (5, .slice (some ⟨B114, 0, none⟩) 0 0), (6, .int .i64 to)]) (v := .agg #[.int .i64 k, .int .i64 l.s, .int .i64 l.v, .int .i64 0, .int .i64 0, .slice (some ⟨B110, 0, none⟩) 0 0, .slice (some ⟨B114, 0, none⟩) 0 0, .int .i64 to]) (Xw rfl (Xw rfl (Xw rfl (Xw rfl (Xw rfl X9))))) (fun _ => by kernel_rfl) rfl ?_
 refine wpo_alloc (cs := #[.int .i64 0, .int .i64 0, .int .i64 0, .int .i64 0, .int .i64 0, .slice none 0 0, .slice none 0 0, .int .i64 0]) Jd rfl rfl ?_
 intro B120 w121 hN122
 have hlB120 := Xv hN122 hb119
 have k123 := (k117.grown0 hN116.grw)
 have lt_B101_B120 := Xr hN122 (k123).lt
 have k124 := (k118.grown0 hN116.grw)
 have lt_B105_B120 := Xr hN122 (k124).lt
 have k125 := (hN112.blk.grown0 hN116.grw)
 have lt_B110_B120 := Xr hN122 (k125).lt
 have lt_B114_B120 := Xr hN122 (hN116.blk).lt
 have hb126 := low0 hb119 hN122.grw
 refine wpo_storen (vs := [.int .i64 k, .int .i64 l.s, .int .i64 l.v, .int .i64 0, .int .i64 0, .slice (some ⟨B110, 0, none⟩) 0 0, .slice (some ⟨B114, 0, none⟩) 0 0, .int .i64 to]) (cs' := #[.int .i64 k, .int .i64 l.s, .int .i64 l.v, .int .i64 0, .int .i64 0, .slice (some ⟨B110, 0, none⟩) 0 0, .slice (some ⟨B114, 0, none⟩) 0 0, .int .i64 to]) X5 rfl rfl rfl (by simp [Value.oneCell']) hN122.blk (Nat.le_of_ble_eq_true rfl) rfl ?_
 intro w127 hS128
 have hb129 := low1 hb126 hS128.grw (by omega)
 refine wpo_nil ?_
 refine Xh ?_
 refine Xa ?_
 refine wpo_move (v := .int .i64 k) rfl rfl ?_
 refine Xi (vs := [.int .i64 k]) Hv (Xc rfl Xg) rfl (Kc k _) ?_
 rintro _ w130 ⟨rfl, hg131⟩
 have hb132 := low0 hb129 hg131
 refine wpo_nil ?_
 refine Yb rfl hk ?_
 refine Xs ?_
 refine wpo_make (g := Rt.cells) (z := Rt.zero) (c := 4) Rb rfl Y3 (by omega) rfl rfl (by omega) (by omega) rfl ?_
 intro B133 w134 hN135
 have hlB133 := Xv hN135 hb132
 have k136 := (((k123.grown0 hN122.grw).gn hS128.grw).grown0 hg131)
 have lt_B101_B133 := Xr hN135 (k136).lt
 have k137 := (((k124.grown0 hN122.grw).gn hS128.grw).grown0 hg131)
 have lt_B105_B133 := Xr hN135 (k137).lt
 have k138 := (((k125.grown0 hN122.grw).gn hS128.grw).grown0 hg131)
 have lt_B110_B133 := Xr hN135 (k138).lt
 have k139 := (((hN116.blk.grown0 hN122.grw).gn hS128.grw).grown0 hg131)
 have lt_B114_B133 := Xr hN135 (k139).lt
 have k140 := (hS128.blk.grown0 hg131)
 have lt_B120_B133 := Xr hN135 (k140).lt
 have hb141 := low0 hb132 hN135.grw
 refine wpo_fieldAddr (o' := 5) Y7 rfl rfl rfl ?_
 have k142 := (k140.grown0 hN135.grw)
 refine wpo_store1 (v := .slice (some ⟨B133, 0, none⟩) 4 4) (cs' := #[.int .i64 k, .int .i64 l.s, .int .i64 l.v, .int .i64 0, .int .i64 0, .slice (some ⟨B133, 0, none⟩) 4 4, .slice (some ⟨B114, 0, none⟩) 0 0, .int .i64 to]) Jl rfl rfl rfl k142 (Nat.le_of_ble_eq_true rfl) rfl ?_
 intro w143 hS144
 have hb145 := low1 hb141 hS144.grw (by omega)
 refine wpo_nil ?_
 refine Xo ?_
 refine Xh ?_
 refine Xa ?_
 refine wpo_loadn (vs := [.int .i64 k, .int .i64 l.s, .int .i64 l.v, .int .i64 0, .int .i64 0, .slice (some ⟨B133, 0, none⟩) 4 4, .slice (some ⟨B114, 0, none⟩) 0 0, .int .i64 to]) X5 rfl rfl (hS144.blk.rangeL 0 8 rfl) rfl ?_
 have k146 := (hN135.blk.gn hS144.grw)
 have k147 := ((k139.grown0 hN135.grw).gn hS144.grw)
 refine Xi (vs := [.agg #[.int .i64 k, .int .i64 l.s, .int .i64 l.v, .int .i64 0, .int .i64 0, .slice (some ⟨B133, 0, none⟩) 4 4, .slice (some ⟨B114, 0, none⟩) 0 0, .int .i64 to]]) P4 (Xc rfl Xg) rfl (K2 (⟨⟨k, l, 0, 0, zeros4, [], to⟩, some ⟨B133, 0, none⟩, 4, some ⟨B114, 0, none⟩, 0⟩ : MTh) _ (Q0 Y3 k146) (Q0 Qb k147) (by first | omega | exact Nat.le_of_ble_eq_true rfl | (simp only [List.length_nil, List.length_cons, List.length_append, List.length_replicate]; omega)) (by first | omega | exact Nat.le_of_ble_eq_true rfl | (simp only [List.length_nil, List.length_cons, List.length_append, List.length_replicate]; omega))) ?_
 rintro _ w148 ⟨rfl, hg149⟩
 have hb150 := low0 hb145 hg149
 refine wpo_not (b' := !thingOk (⟨k, l, 0, 0, zeros4, [], to⟩ : Th)) rfl rfl rfl ?_
 refine wpo_nil ?_
 refine Yb rfl (Qn hlit) ?_
 refine Xa ?_
 refine wpo_build (ps := []) (v := .agg #[.int .i64 0, .int .i64 0, .int .i64 0, .int .i64 0, .int .i64 0, .slice none 0 0, .slice none 0 0, .int .i64 0]) X9 (fun _ => by kernel_rfl) rfl ?_
 have k151 := (((k137.grown0 hN135.grw).gn hS144.grw).grown0 hg149)
 refine wpo_storen (vs := [.int .i64 0, .int .i64 0, .int .i64 0, .int .i64 0, .int .i64 0, .slice none 0 0, .slice none 0 0, .int .i64 0]) (cs' := #[.int .i64 0, .int .i64 0, .int .i64 0, .int .i64 0, .int .i64 0, .slice none 0 0, .slice none 0 0, .int .i64 0]) X5 rfl rfl rfl (by simp [Value.oneCell']) k151 (Nat.le_of_ble_eq_true rfl) rfl ?_
 intro w152 hS153
 have hb154 := low1 hb150 hS153.grw (by omega)
 refine wpo_assign (v := .bool false) rfl rfl ?_
 refine wpo_nil ?_
 refine Xk ?_
 refine Xy ?_
 refine ⟨.tuple #[.agg #[.int .i64 0, .int .i64 0, .int .i64 0, .int .i64 0, .int .i64 0, .slice none 0 0, .slice none 0 0, .int .i64 0], .bool false], resCT rfl (resCell_mk (vs := [.int .i64 0, .int .i64 0, .int .i64 0, .int .i64 0, .int .i64 0, .slice none 0 0, .slice none 0 0, .int .i64 0]) X5 rfl rfl (hS153.blk.rangeL 0 8 rfl)) rfl, rfl, hb154⟩
theorem N1 [Comp] (k to : Int) (l : Lab) (hk : ((decide (k = 2)) || (decide (k = 3))) = false) (hok : newOk k l to = true) (w : World) : CallsR Try.prog 93 #[.int .i64 k, .agg #[.int .i64 l.s, .int .i64 l.v], .int .i64 to] w (fun v w' => ∃ (S sc Q qc : Nat), v = .tuple #[.agg #[.int .i64 k, .int .i64 l.s, .int .i64 l.v, .int .i64 0, .int .i64 0, .slice (some ⟨S, 0, none⟩) 0 sc, .slice (some ⟨Q, 0, none⟩) 0 qc, .int .i64 to], .bool true] ∧ w.heap.size ≤ S ∧ Dw.Own w' S 74 5 sc 0 (([] : List Rt).flatMap Rt.cells) ∧ w.heap.size ≤ Q ∧ Dw.Own w' Q 3 1 qc 0 (([] : List Int).flatMap icell) ∧ S ≠ Q ∧ w.grownBy w' none) := by
 refine Xl (n := 24) Try.func93 rfl Try.ntmps93 rfl ?_
 have hb0 := World.grownBy.refl w none
 have hlit : thingOk (⟨k, l, 0, 0, [], [], to⟩ : Th) = true := (Uq hk).symm.trans hok
 have h101 : decide (k = 2) = false := Vn hk
 have h102 : decide (k = 3) = false := Vo hk
 refine Xa ?_
 refine wpo_box (v := .agg #[.int .i64 l.s, .int .i64 l.v]) (cs := #[.int .i64 l.s, .int .i64 l.v]) rfl rfl rfl ?_
 intro B103 w104 hN105
 have hlB103 := Xv hN105 hb0
 have hb106 := low0 hb0 hN105.grw
 refine wpo_alloc (cs := #[.int .i64 0, .int .i64 0, .int .i64 0, .int .i64 0, .int .i64 0, .slice none 0 0, .slice none 0 0, .int .i64 0]) Jd rfl rfl ?_
 intro B107 w108 hN109
 have hlB107 := Xv hN109 hb106
 have lt_B103_B107 := Xr hN109 (hN105.blk).lt
 have hb110 := low0 hb106 hN109.grw
 refine wpo_assign (v := .bool false) rfl rfl ?_
 refine wpo_nil ?_
 refine Xa ?_
 refine wpo_move (v := .int .i64 k) rfl rfl ?_
 have k111 := (hN105.blk.grown0 hN109.grw)
 refine wpo_loadn (vs := [.int .i64 l.s, .int .i64 l.v]) Qg rfl rfl (k111.rangeL 0 2 rfl) rfl ?_
 refine wpo_buildSlice (ps := []) (e := 74) (cs := (([] : List Rt).flatMap Rt.cells).toArray) X9 (fun _ => by kernel_rfl) rfl ?_
 intro B112 w113 hN114
 have hlB112 := Xv hN114 hb110
 have lt_B103_B112 := Xr hN114 (k111).lt
 have lt_B107_B112 := Xr hN114 (hN109.blk).lt
 have hb115 := low0 hb110 hN114.grw
 refine wpo_buildSlice (ps := []) (e := 3) (cs := (([] : List Int).flatMap icell).toArray) X9 (fun _ => by kernel_rfl) rfl ?_
 intro B116 w117 hN118
 have hlB116 := Xv hN118 hb115
 have k119 := (k111.grown0 hN114.grw)
 have lt_B103_B116 := Xr hN118 (k119).lt
 have k120 := (hN109.blk.grown0 hN114.grw)
 have lt_B107_B116 := Xr hN118 (k120).lt
 have lt_B112_B116 := Xr hN118 (hN114.blk).lt
 have hb121 := low0 hb115 hN118.grw
 refine wpo_move (v := .int .i64 to) rfl rfl ?_
 refine wpo_build (ps := [(0, .int .i64 k), (1, .agg #[.int .i64 l.s, .int .i64 l.v]), (4, .slice (some ⟨B112, 0, none⟩) 0 0), (5, .slice (some ⟨B116, 0, none⟩) 0 0), (6, .int .i64 to)]) (v := .agg #[.int .i64 k, .int .i64 l.s, .int .i64 l.v, .int .i64 0, .int .i64 0, .slice (some ⟨B112, 0, none⟩) 0 0, .slice (some ⟨B116, 0, none⟩) 0 0, .int .i64 to]) (Xw rfl (Xw rfl (Xw rfl (Xw rfl (Xw rfl X9))))) (fun _ => by kernel_rfl) rfl ?_
 refine wpo_alloc (cs := #[.int .i64 0, .int .i64 0, .int .i64 0, .int .i64 0, .int .i64 0, .slice none 0 0, .slice none 0 0, .int .i64 0]) Jd rfl rfl ?_
 intro B122 w123 hN124
 have hlB122 := Xv hN124 hb121
 have k125 := (k119.grown0 hN118.grw)
 have lt_B103_B122 := Xr hN124 (k125).lt
 have k126 := (k120.grown0 hN118.grw)
 have lt_B107_B122 := Xr hN124 (k126).lt
 have k127 := (hN114.blk.grown0 hN118.grw)
 have lt_B112_B122 := Xr hN124 (k127).lt
 have lt_B116_B122 := Xr hN124 (hN118.blk).lt
 have hb128 := low0 hb121 hN124.grw
 refine wpo_storen (vs := [.int .i64 k, .int .i64 l.s, .int .i64 l.v, .int .i64 0, .int .i64 0, .slice (some ⟨B112, 0, none⟩) 0 0, .slice (some ⟨B116, 0, none⟩) 0 0, .int .i64 to]) (cs' := #[.int .i64 k, .int .i64 l.s, .int .i64 l.v, .int .i64 0, .int .i64 0, .slice (some ⟨B112, 0, none⟩) 0 0, .slice (some ⟨B116, 0, none⟩) 0 0, .int .i64 to]) X5 rfl rfl rfl (by simp [Value.oneCell']) hN124.blk (Nat.le_of_ble_eq_true rfl) rfl ?_
 intro w129 hS130
 have hb131 := low1 hb128 hS130.grw (by omega)
 refine wpo_nil ?_
 refine Xh ?_
 refine Xa ?_
 refine wpo_move (v := .int .i64 k) rfl rfl ?_
 refine Xi (vs := [.int .i64 k]) Hv (Xc rfl Xg) rfl (Kc k _) ?_
 rintro _ w132 ⟨rfl, hg133⟩
 have hb134 := low0 hb131 hg133
 refine wpo_nil ?_
 refine X8 rfl hk ?_
 refine Xm ?_
 refine Xo ?_
 refine Xh ?_
 refine Xa ?_
 have k135 := (hS130.blk.grown0 hg133)
 refine wpo_loadn (vs := [.int .i64 k, .int .i64 l.s, .int .i64 l.v, .int .i64 0, .int .i64 0, .slice (some ⟨B112, 0, none⟩) 0 0, .slice (some ⟨B116, 0, none⟩) 0 0, .int .i64 to]) X5 rfl rfl (k135.rangeL 0 8 rfl) rfl ?_
 have k136 := (((k127.grown0 hN124.grw).gn hS130.grw).grown0 hg133)
 have k137 := (((hN118.blk.grown0 hN124.grw).gn hS130.grw).grown0 hg133)
 refine Xi (vs := [.agg #[.int .i64 k, .int .i64 l.s, .int .i64 l.v, .int .i64 0, .int .i64 0, .slice (some ⟨B112, 0, none⟩) 0 0, .slice (some ⟨B116, 0, none⟩) 0 0, .int .i64 to]]) P4 (Xc rfl Xg) rfl (K2 (⟨⟨k, l, 0, 0, [], [], to⟩, some ⟨B112, 0, none⟩, 0, some ⟨B116, 0, none⟩, 0⟩ : MTh) _ (Q0 Y3 k136) (Q0 Qb k137) (by first | omega | exact Nat.le_of_ble_eq_true rfl | (simp only [List.length_nil, List.length_cons, List.length_append, List.length_replicate]; omega)) (by first | omega | exact Nat.le_of_ble_eq_true rfl | (simp only [List.length_nil, List.length_cons, List.length_append, List.length_replicate]; omega))) ?_
 rintro _ w138 ⟨rfl, hg139⟩
 have hb140 := low0 hb134 hg139
 refine wpo_not (b' := !thingOk (⟨k, l, 0, 0, [], [], to⟩ : Th)) rfl rfl rfl ?_
 refine wpo_nil ?_
 refine X8 rfl (Jt hlit) ?_
 refine Xm ?_
 refine Xo ?_
 refine Xa ?_
 have k141 := (k135.grown0 hg139)
 refine wpo_loadn (vs := [.int .i64 k, .int .i64 l.s, .int .i64 l.v, .int .i64 0, .int .i64 0, .slice (some ⟨B112, 0, none⟩) 0 0, .slice (some ⟨B116, 0, none⟩) 0 0, .int .i64 to]) X5 rfl rfl (k141.rangeL 0 8 rfl) rfl ?_
 have k142 := ((((k126.grown0 hN124.grw).gn hS130.grw).grown0 hg133).grown0 hg139)
 refine wpo_storen (vs := [.int .i64 k, .int .i64 l.s, .int .i64 l.v, .int .i64 0, .int .i64 0, .slice (some ⟨B112, 0, none⟩) 0 0, .slice (some ⟨B116, 0, none⟩) 0 0, .int .i64 to]) (cs' := #[.int .i64 k, .int .i64 l.s, .int .i64 l.v, .int .i64 0, .int .i64 0, .slice (some ⟨B112, 0, none⟩) 0 0, .slice (some ⟨B116, 0, none⟩) 0 0, .int .i64 to]) X5 rfl rfl rfl (by simp [Value.oneCell']) k142 (Nat.le_of_ble_eq_true rfl) rfl ?_
 intro w143 hS144
 have hb145 := low1 hb140 hS144.grw (by omega)
 refine wpo_assign (v := .bool true) rfl rfl ?_
 refine wpo_nil ?_
 refine Xk ?_
 have k146 := ((k136.grown0 hg139).gn hS144.grw)
 have k147 := ((k137.grown0 hg139).gn hS144.grw)
 refine ⟨.tuple #[.agg #[.int .i64 k, .int .i64 l.s, .int .i64 l.v, .int .i64 0, .int .i64 0, .slice (some ⟨B112, 0, none⟩) 0 0, .slice (some ⟨B116, 0, none⟩) 0 0, .int .i64 to], .bool true], resCT rfl (resCell_mk (vs := [.int .i64 k, .int .i64 l.s, .int .i64 l.v, .int .i64 0, .int .i64 0, .slice (some ⟨B112, 0, none⟩) 0 0, .slice (some ⟨B116, 0, none⟩) 0 0, .int .i64 to]) X5 rfl rfl (hS144.blk.rangeL 0 8 rfl)) rfl, B112, 0, B116, 0, rfl, hlB112, (Own.rows Y3 k146 (by decide)), hlB116, (Own.rows Qb k147 (by decide)), (Nat.ne_of_lt lt_B112_B116), hb145⟩
theorem Nz [Comp] (k to : Int) (l : Lab) (hk : ((decide (k = 2)) || (decide (k = 3))) = false) (hok : newOk k l to = false) (w : World) : CallsR Try.prog 93 #[.int .i64 k, .agg #[.int .i64 l.s, .int .i64 l.v], .int .i64 to] w (fun v w' => v = .tuple #[.agg #[.int .i64 0, .int .i64 0, .int .i64 0, .int .i64 0, .int .i64 0, .slice none 0 0, .slice none 0 0, .int .i64 0], .bool false] ∧ w.grownBy w' none) := by
 refine Xl (n := 24) Try.func93 rfl Try.ntmps93 rfl ?_
 have hb0 := World.grownBy.refl w none
 have hlit : thingOk (⟨k, l, 0, 0, [], [], to⟩ : Th) = false := (Uq hk).symm.trans hok
 have h101 : decide (k = 2) = false := Vn hk
 have h102 : decide (k = 3) = false := Vo hk
 refine Xa ?_
 refine wpo_box (v := .agg #[.int .i64 l.s, .int .i64 l.v]) (cs := #[.int .i64 l.s, .int .i64 l.v]) rfl rfl rfl ?_
 intro B103 w104 hN105
 have hlB103 := Xv hN105 hb0
 have hb106 := low0 hb0 hN105.grw
 refine wpo_alloc (cs := #[.int .i64 0, .int .i64 0, .int .i64 0, .int .i64 0, .int .i64 0, .slice none 0 0, .slice none 0 0, .int .i64 0]) Jd rfl rfl ?_
 intro B107 w108 hN109
 have hlB107 := Xv hN109 hb106
 have lt_B103_B107 := Xr hN109 (hN105.blk).lt
 have hb110 := low0 hb106 hN109.grw
 refine wpo_assign (v := .bool false) rfl rfl ?_
 refine wpo_nil ?_
 refine Xa ?_
 refine wpo_move (v := .int .i64 k) rfl rfl ?_
 have k111 := (hN105.blk.grown0 hN109.grw)
 refine wpo_loadn (vs := [.int .i64 l.s, .int .i64 l.v]) Qg rfl rfl (k111.rangeL 0 2 rfl) rfl ?_
 refine wpo_buildSlice (ps := []) (e := 74) (cs := (([] : List Rt).flatMap Rt.cells).toArray) X9 (fun _ => by kernel_rfl) rfl ?_
 intro B112 w113 hN114
 have hlB112 := Xv hN114 hb110
 have lt_B103_B112 := Xr hN114 (k111).lt
 have lt_B107_B112 := Xr hN114 (hN109.blk).lt
 have hb115 := low0 hb110 hN114.grw
 refine wpo_buildSlice (ps := []) (e := 3) (cs := (([] : List Int).flatMap icell).toArray) X9 (fun _ => by kernel_rfl) rfl ?_
 intro B116 w117 hN118
 have hlB116 := Xv hN118 hb115
 have k119 := (k111.grown0 hN114.grw)
 have lt_B103_B116 := Xr hN118 (k119).lt
 have k120 := (hN109.blk.grown0 hN114.grw)
 have lt_B107_B116 := Xr hN118 (k120).lt
 have lt_B112_B116 := Xr hN118 (hN114.blk).lt
 have hb121 := low0 hb115 hN118.grw
 refine wpo_move (v := .int .i64 to) rfl rfl ?_
 refine wpo_build (ps := [(0, .int .i64 k), (1, .agg #[.int .i64 l.s, .int .i64 l.v]), (4, .slice (some ⟨B112, 0, none⟩) 0 0), (5, .slice (some ⟨B116, 0, none⟩) 0 0), (6, .int .i64 to)]) (v := .agg #[.int .i64 k, .int .i64 l.s, .int .i64 l.v, .int .i64 0, .int .i64 0, .slice (some ⟨B112, 0, none⟩) 0 0, .slice (some ⟨B116, 0, none⟩) 0 0, .int .i64 to]) (Xw rfl (Xw rfl (Xw rfl (Xw rfl (Xw rfl X9))))) (fun _ => by kernel_rfl) rfl ?_
 refine wpo_alloc (cs := #[.int .i64 0, .int .i64 0, .int .i64 0, .int .i64 0, .int .i64 0, .slice none 0 0, .slice none 0 0, .int .i64 0]) Jd rfl rfl ?_
 intro B122 w123 hN124
 have hlB122 := Xv hN124 hb121
 have k125 := (k119.grown0 hN118.grw)
 have lt_B103_B122 := Xr hN124 (k125).lt
 have k126 := (k120.grown0 hN118.grw)
 have lt_B107_B122 := Xr hN124 (k126).lt
 have k127 := (hN114.blk.grown0 hN118.grw)
 have lt_B112_B122 := Xr hN124 (k127).lt
 have lt_B116_B122 := Xr hN124 (hN118.blk).lt
 have hb128 := low0 hb121 hN124.grw
 refine wpo_storen (vs := [.int .i64 k, .int .i64 l.s, .int .i64 l.v, .int .i64 0, .int .i64 0, .slice (some ⟨B112, 0, none⟩) 0 0, .slice (some ⟨B116, 0, none⟩) 0 0, .int .i64 to]) (cs' := #[.int .i64 k, .int .i64 l.s, .int .i64 l.v, .int .i64 0, .int .i64 0, .slice (some ⟨B112, 0, none⟩) 0 0, .slice (some ⟨B116, 0, none⟩) 0 0, .int .i64 to]) X5 rfl rfl rfl (by simp [Value.oneCell']) hN124.blk (Nat.le_of_ble_eq_true rfl) rfl ?_
 intro w129 hS130
 have hb131 := low1 hb128 hS130.grw (by omega)
 refine wpo_nil ?_
 refine Xh ?_
 refine Xa ?_
 refine wpo_move (v := .int .i64 k) rfl rfl ?_
 refine Xi (vs := [.int .i64 k]) Hv (Xc rfl Xg) rfl (Kc k _) ?_
 rintro _ w132 ⟨rfl, hg133⟩
 have hb134 := low0 hb131 hg133
 refine wpo_nil ?_
 refine X8 rfl hk ?_
 refine Xm ?_
 refine Xo ?_
 refine Xh ?_
 refine Xa ?_
 have k135 := (hS130.blk.grown0 hg133)
 refine wpo_loadn (vs := [.int .i64 k, .int .i64 l.s, .int .i64 l.v, .int .i64 0, .int .i64 0, .slice (some ⟨B112, 0, none⟩) 0 0, .slice (some ⟨B116, 0, none⟩) 0 0, .int .i64 to]) X5 rfl rfl (k135.rangeL 0 8 rfl) rfl ?_
 have k136 := (((k127.grown0 hN124.grw).gn hS130.grw).grown0 hg133)
 have k137 := (((hN118.blk.grown0 hN124.grw).gn hS130.grw).grown0 hg133)
 refine Xi (vs := [.agg #[.int .i64 k, .int .i64 l.s, .int .i64 l.v, .int .i64 0, .int .i64 0, .slice (some ⟨B112, 0, none⟩) 0 0, .slice (some ⟨B116, 0, none⟩) 0 0, .int .i64 to]]) P4 (Xc rfl Xg) rfl (K2 (⟨⟨k, l, 0, 0, [], [], to⟩, some ⟨B112, 0, none⟩, 0, some ⟨B116, 0, none⟩, 0⟩ : MTh) _ (Q0 Y3 k136) (Q0 Qb k137) (by first | omega | exact Nat.le_of_ble_eq_true rfl | (simp only [List.length_nil, List.length_cons, List.length_append, List.length_replicate]; omega)) (by first | omega | exact Nat.le_of_ble_eq_true rfl | (simp only [List.length_nil, List.length_cons, List.length_append, List.length_replicate]; omega))) ?_
 rintro _ w138 ⟨rfl, hg139⟩
 have hb140 := low0 hb134 hg139
 refine wpo_not (b' := !thingOk (⟨k, l, 0, 0, [], [], to⟩ : Th)) rfl rfl rfl ?_
 refine wpo_nil ?_
 refine Yb rfl (Qn hlit) ?_
 refine Xa ?_
 refine wpo_build (ps := []) (v := .agg #[.int .i64 0, .int .i64 0, .int .i64 0, .int .i64 0, .int .i64 0, .slice none 0 0, .slice none 0 0, .int .i64 0]) X9 (fun _ => by kernel_rfl) rfl ?_
 have k141 := ((((k126.grown0 hN124.grw).gn hS130.grw).grown0 hg133).grown0 hg139)
 refine wpo_storen (vs := [.int .i64 0, .int .i64 0, .int .i64 0, .int .i64 0, .int .i64 0, .slice none 0 0, .slice none 0 0, .int .i64 0]) (cs' := #[.int .i64 0, .int .i64 0, .int .i64 0, .int .i64 0, .int .i64 0, .slice none 0 0, .slice none 0 0, .int .i64 0]) X5 rfl rfl rfl (by simp [Value.oneCell']) k141 (Nat.le_of_ble_eq_true rfl) rfl ?_
 intro w142 hS143
 have hb144 := low1 hb140 hS143.grw (by omega)
 refine wpo_assign (v := .bool false) rfl rfl ?_
 refine wpo_nil ?_
 refine Xk ?_
 refine Xy ?_
 refine ⟨.tuple #[.agg #[.int .i64 0, .int .i64 0, .int .i64 0, .int .i64 0, .int .i64 0, .slice none 0 0, .slice none 0 0, .int .i64 0], .bool false], resCT rfl (resCell_mk (vs := [.int .i64 0, .int .i64 0, .int .i64 0, .int .i64 0, .int .i64 0, .slice none 0 0, .slice none 0 0, .int .i64 0]) X5 rfl rfl (hS143.blk.rangeL 0 8 rfl)) rfl, rfl, hb144⟩
theorem Mz [Comp] (a b : Lab) (w : World) : CallsR Try.prog 106 #[.agg #[.int .i64 a.s, .int .i64 a.v], .agg #[.int .i64 b.s, .int .i64 b.v]] w (fun v w' => v = .bool (decide (a = b)) ∧ w.grownBy w' none) := by
 refine Xl (n := 15) Try.func106 rfl Try.ntmps106 rfl ?_
 have hb0 := World.grownBy.refl w none
 refine Xa ?_
 refine wpo_box (v := .agg #[.int .i64 a.s, .int .i64 a.v]) (cs := #[.int .i64 a.s, .int .i64 a.v]) rfl rfl rfl ?_
 intro B101 w102 hN103
 have hlB101 := Xv hN103 hb0
 have hb104 := low0 hb0 hN103.grw
 refine wpo_box (v := .agg #[.int .i64 b.s, .int .i64 b.v]) (cs := #[.int .i64 b.s, .int .i64 b.v]) rfl rfl rfl ?_
 intro B105 w106 hN107
 have hlB105 := Xv hN107 hb104
 have lt_B101_B105 := Xr hN107 (hN103.blk).lt
 have hb108 := low0 hb104 hN107.grw
 refine wpo_assign (v := .bool false) rfl rfl ?_
 refine wpo_nil ?_
 refine Xh ?_
 refine Xa ?_
 refine wpo_fieldAddr (o' := 0) Ke rfl rfl rfl ?_
 have k109 := (hN103.blk.grown0 hN107.grw)
 refine wpo_load1 (v := .int .i64 a.s) X1 rfl (k109.cell rfl) rfl ?_
 refine wpo_fieldAddr (o' := 0) Ke rfl rfl rfl ?_
 refine wpo_load1 (v := .int .i64 b.s) X1 rfl (hN107.blk.cell rfl) rfl ?_
 refine wpo_neq (q := !(decide (a.s = b.s))) rfl rfl rfl rfl ?_
 refine wpo_nil ?_
 refine Xp rfl (fun h110 => ?_) (fun h110 => ?_)
 ·
  have h111 := Qi h110
  have h112 := of_decide_eq_false h111
  refine Xa ?_
  refine wpo_assign (v := .bool false) rfl rfl ?_
  refine wpo_nil ?_
  refine Xk ?_
  refine Xy ?_
  refine ⟨.bool false, res1 rfl rfl, ?_, hb108⟩
  obtain ⟨a1, a2⟩ := a
  obtain ⟨b1, b2⟩ := b
  simp_all
 ·
  have h113 := Y5 h110
  have h114 := of_decide_eq_true h113
  refine Xm ?_
  refine Xo ?_
  refine Xh ?_
  refine Xa ?_
  refine wpo_fieldAddr (o' := 1) Kg rfl rfl rfl ?_
  refine wpo_load1 (v := .int .i64 a.v) X1 rfl (k109.cell rfl) rfl ?_
  refine wpo_fieldAddr (o' := 1) Kg rfl rfl rfl ?_
  refine wpo_load1 (v := .int .i64 b.v) X1 rfl (hN107.blk.cell rfl) rfl ?_
  refine wpo_neq (q := !(decide (a.v = b.v))) rfl rfl rfl rfl ?_
  refine wpo_nil ?_
  refine Xp rfl (fun h115 => ?_) (fun h115 => ?_)
  ·
   have h116 := Qi h115
   have h117 := of_decide_eq_false h116
   refine Xa ?_
   refine wpo_assign (v := .bool false) rfl rfl ?_
   refine wpo_nil ?_
   refine Xk ?_
   refine Xy ?_
   refine ⟨.bool false, res1 rfl rfl, ?_, hb108⟩
   obtain ⟨a1, a2⟩ := a
   obtain ⟨b1, b2⟩ := b
   simp_all
  ·
   have h118 := Y5 h115
   have h119 := of_decide_eq_true h118
   refine Xm ?_
   refine Xo ?_
   refine Xa ?_
   refine wpo_assign (v := .bool true) rfl rfl ?_
   refine wpo_nil ?_
   refine Xk ?_
   refine ⟨.bool true, res1 rfl rfl, ?_, hb108⟩
   obtain ⟨a1, a2⟩ := a
   obtain ⟨b1, b2⟩ := b
   simp_all
theorem Cy [Comp] (w : World) (xs ys : List Int) (a b : Option Addr) (c e : Nat) (hs : SlAt w a 1 (xs.map icell)) (ht : SlAt w b 1 (ys.map icell)) (hn : xs.length ≤ 1048576) (hm : ys.length ≤ 1048576) : CallsR Try.prog 108 #[.slice a xs.length c, .slice b ys.length e] w (fun v w' => v = .bool (decide (xs = ys)) ∧ w.grownBy w' none) := by
 refine Xl (n := 26) Try.func108 rfl Try.ntmps108 rfl ?_
 have hb0 := World.grownBy.refl w none
 refine Xa ?_
 refine wpo_assign (v := .bool false) rfl rfl ?_
 refine wpo_nil ?_
 refine Xh ?_
 refine Xa ?_
 refine wpo_move (v := .slice a xs.length c) rfl rfl ?_
 refine wpo_len (by kernel_rfl) rfl rfl ?_
 refine wpo_move (v := .slice b ys.length e) rfl rfl ?_
 refine wpo_len (by kernel_rfl) rfl rfl ?_
 refine wpo_neq (q := !(decide ((xs.length : Int) = (ys.length : Int)))) rfl rfl rfl rfl ?_
 refine wpo_nil ?_
 refine Xp rfl (fun h101 => ?_) (fun h101 => ?_)
 ·
  have h102 := Qi h101
  have h103 := of_decide_eq_false h102
  refine Xa ?_
  refine wpo_assign (v := .bool false) rfl rfl ?_
  refine wpo_nil ?_
  refine Xk ?_
  refine Xy ?_
  refine ⟨.bool false, res1 rfl rfl, ?_, hb0⟩
  exact congrArg Value.bool (decide_eq_false (fun h => by have := congrArg List.length h; omega)).symm
 ·
  have h104 := Y5 h101
  have h105 := of_decide_eq_true h104
  refine Xm ?_
  refine Xo ?_
  refine Xh ?_
  refine Xa ?_
  refine wpo_assign (v := .int .i64 0) rfl rfl ?_
  refine wpo_nil ?_
  refine Xu ?_
  refine Yf (fun mm f' w' => ∃ (k : Nat), mm = xs.length - k ∧ k ≤ xs.length ∧ xs.take k = ys.take k ∧ f' 5 = .int .i64 (k : Int) ∧ f' 0 = .slice a xs.length c ∧ f' 1 = .slice b ys.length e ∧ w.grownBy w' none) (xs.length - 0) ⟨0, rfl, (Nat.zero_le _), rfl, rfl, rfl, rfl, hb0⟩ ?_
  rintro mm f106 w107 ⟨k, hm109, hk, ha, e110, e111, e112, hb108⟩
  refine Xh ?_
  refine Xa ?_
  refine wpo_move (v := .int .i64 (k : Int)) e110 rfl ?_
  refine wpo_move (v := .slice a xs.length c) e111 rfl ?_
  refine wpo_len (by kernel_rfl) rfl rfl ?_
  refine wpo_lss (q := decide ((k : Int) < (xs.length : Int))) rfl rfl rfl rfl ?_
  refine wpo_nil ?_
  refine Xp rfl (fun h113 => ?_) (fun h113 => ?_)
  ·
   have h114 := of_decide_eq_true h113
   refine Xm ?_
   refine Xo ?_
   refine Xh ?_
   refine Xu ?_
   refine Xh ?_
   obtain ⟨x147, hx148⟩ := Qx (l := xs) (i := k) (by omega)
   obtain ⟨b149, q150, o151, ha152, ho153, hr154⟩ := SlAt.at hs (Yc hx148)
   obtain ⟨x155, hx156⟩ := Qx (l := ys) (i := k) (by omega)
   obtain ⟨b157, q158, o159, ha160, ho161, hr162⟩ := SlAt.at ht (Yc hx156)
   refine Yx (m := 8) (vals := [(17, .slice a xs.length c), (18, .int .i64 (k : Int)), (19, .pointer (some ⟨b149, o151, none⟩)), (20, .int .i64 x147), (21, .slice b ys.length e), (22, .int .i64 (k : Int)), (23, .pointer (some ⟨b157, o159, none⟩)), (24, .int .i64 x155)]) (fun w' => w107.grownBy w' none) Qd (by kernel_rfl) (X4 _) ?_ ?_
   ·
    refine Xd rfl (fun w163 hi164 => ?_) ?_
    ·
     have hb165 := low0 hb108 hi164
     refine wpo_move (v := .slice a xs.length c) e111 rfl ?_
     exact wpo_nil ⟨rfl, hi164⟩
    refine Xd rfl (fun w166 hi167 => ?_) ?_
    ·
     have hb168 := low0 hb108 hi167
     refine wpo_move (v := .int .i64 (k : Int)) e110 rfl ?_
     exact wpo_nil ⟨rfl, hi167⟩
    refine Xd rfl (fun w169 hi170 => ?_) ?_
    ·
     have hb171 := low0 hb108 hi170
     refine Xz Wq rfl rfl ha152 ho153 (by omega) (by omega) rfl ?_
     exact wpo_nil ⟨rfl, hi170⟩
    refine Xd rfl (fun w172 hi173 => ?_) ?_
    ·
     have hb174 := low0 hb108 hi173
     refine wpo_load1 (v := .int .i64 x147) X1 rfl ((Yd hr154 hb174) 0 _ rfl) rfl ?_
     exact wpo_nil ⟨rfl, hi173⟩
    refine Xd rfl (fun w175 hi176 => ?_) ?_
    ·
     have hb177 := low0 hb108 hi176
     refine wpo_move (v := .slice b ys.length e) e112 rfl ?_
     exact wpo_nil ⟨rfl, hi176⟩
    refine Xd rfl (fun w178 hi179 => ?_) ?_
    ·
     have hb180 := low0 hb108 hi179
     refine wpo_move (v := .int .i64 (k : Int)) e110 rfl ?_
     exact wpo_nil ⟨rfl, hi179⟩
    refine Xd rfl (fun w181 hi182 => ?_) ?_
    ·
     have hb183 := low0 hb108 hi182
     refine Xz Wq rfl rfl ha160 ho161 (by omega) (by omega) rfl ?_
     exact wpo_nil ⟨rfl, hi182⟩
    refine Xd rfl (fun w184 hi185 => ?_) ?_
    ·
     have hb186 := low0 hb108 hi185
     refine wpo_load1 (v := .int .i64 x155) X1 rfl ((Yd hr162 hb186) 0 _ rfl) rfl ?_
     exact wpo_nil ⟨rfl, hi185⟩
    exact Qc
   ·
    intro w187 hi188
    have hb189 := low0 hb108 hi188
    refine wpo_neq (q := !(decide (x147 = x155))) rfl rfl rfl rfl ?_
    refine wpo_nil ?_
    refine Xo ?_
    refine Xp rfl (fun h190 => ?_) (fun h190 => ?_)
    ·
     have h191 := Qi h190
     have h192 := of_decide_eq_false h191
     refine Xa ?_
     refine wpo_assign (v := .bool false) rfl rfl ?_
     refine wpo_nil ?_
     refine Xk ?_
     refine Y4 ?_
     refine Xy ?_
     refine Xy ?_
     refine Y4 ?_
     refine Xy ?_
     refine ⟨.bool false, res1 rfl rfl, ?_, hb189⟩
     exact congrArg Value.bool (decide_eq_false (V7 hx148 hx156 (of_decide_eq_false h191))).symm
    ·
     have h193 := Y5 h190
     have h194 := of_decide_eq_true h193
     refine Xm ?_
     refine Je ?_
     refine Xo ?_
     refine Xs ?_
     refine wpo_move (v := .int .i64 (k : Int)) e110 rfl ?_
     refine wpo_add (c := (k : Int) + 1) rfl rfl (by omega) (by omega) (by omega) rfl ?_
     refine wpo_assign (v := .int .i64 ((k : Int) + 1)) rfl rfl ?_
     refine wpo_nil ?_
     refine Xo ?_
     exact ⟨xs.length - (k + 1), by omega, (k + 1), rfl, (by omega), (Jr ha hx148 hx156 (of_decide_eq_true h193)), rfl, e111, e112, hb189⟩
  ·
   have h195 := of_decide_eq_false h113
   refine Yo ?_
   refine Yz ?_
   refine Yz ?_
   refine Jn ?_
   refine Xo ?_
   refine Xa ?_
   refine wpo_assign (v := .bool true) rfl rfl ?_
   refine wpo_nil ?_
   refine Xk ?_
   refine ⟨.bool true, res1 rfl rfl, ?_, hb108⟩
   exact congrArg Value.bool (decide_eq_true (Kv ha (by omega) (by omega))).symm
theorem M1 [Comp] (m p : MTh) (w : World) (ha : ThAt w m) (hb : ThAt w p) (hla : m.t.slots.length ≤ 1048576 ∧ m.t.queue.length ≤ 1048576) (hlb : p.t.slots.length ≤ 1048576 ∧ p.t.queue.length ≤ 1048576) : CallsR Try.prog 65 #[.agg #[.int .i64 m.t.kind, .int .i64 m.t.lab.s, .int .i64 m.t.lab.v, .int .i64 m.t.ve, .int .i64 m.t.num, .slice m.sa m.t.slots.length m.sc, .slice m.qa m.t.queue.length m.qc, .int .i64 m.t.to], .agg #[.int .i64 p.t.kind, .int .i64 p.t.lab.s, .int .i64 p.t.lab.v, .int .i64 p.t.ve, .int .i64 p.t.num, .slice p.sa p.t.slots.length p.sc, .slice p.qa p.t.queue.length p.qc, .int .i64 p.t.to]] w (fun v w' => v = .bool (decide (m.t = p.t)) ∧ w.grownBy w' none) := by
 refine Xl (n := 43) Try.func65 rfl Try.ntmps65 rfl ?_
 have hb0 := World.grownBy.refl w none
 refine Xa ?_
 refine wpo_box (v := .agg #[.int .i64 m.t.kind, .int .i64 m.t.lab.s, .int .i64 m.t.lab.v, .int .i64 m.t.ve, .int .i64 m.t.num, .slice m.sa m.t.slots.length m.sc, .slice m.qa m.t.queue.length m.qc, .int .i64 m.t.to]) (cs := #[.int .i64 m.t.kind, .int .i64 m.t.lab.s, .int .i64 m.t.lab.v, .int .i64 m.t.ve, .int .i64 m.t.num, .slice m.sa m.t.slots.length m.sc, .slice m.qa m.t.queue.length m.qc, .int .i64 m.t.to]) rfl rfl rfl ?_
 intro B101 w102 hN103
 have hlB101 := Xv hN103 hb0
 have hb104 := low0 hb0 hN103.grw
 refine wpo_box (v := .agg #[.int .i64 p.t.kind, .int .i64 p.t.lab.s, .int .i64 p.t.lab.v, .int .i64 p.t.ve, .int .i64 p.t.num, .slice p.sa p.t.slots.length p.sc, .slice p.qa p.t.queue.length p.qc, .int .i64 p.t.to]) (cs := #[.int .i64 p.t.kind, .int .i64 p.t.lab.s, .int .i64 p.t.lab.v, .int .i64 p.t.ve, .int .i64 p.t.num, .slice p.sa p.t.slots.length p.sc, .slice p.qa p.t.queue.length p.qc, .int .i64 p.t.to]) rfl rfl rfl ?_
 intro B105 w106 hN107
 have hlB105 := Xv hN107 hb104
 have lt_B101_B105 := Xr hN107 (hN103.blk).lt
 have hb108 := low0 hb104 hN107.grw
 refine wpo_assign (v := .bool false) rfl rfl ?_
 refine wpo_nil ?_
 refine Xh ?_
 refine Xa ?_
 refine wpo_fieldAddr (o' := 0) Yg rfl rfl rfl ?_
 have k109 := (hN103.blk.grown0 hN107.grw)
 refine wpo_load1 (v := .int .i64 m.t.kind) X1 rfl (k109.cell rfl) rfl ?_
 refine wpo_fieldAddr (o' := 0) Yg rfl rfl rfl ?_
 refine wpo_load1 (v := .int .i64 p.t.kind) X1 rfl (hN107.blk.cell rfl) rfl ?_
 refine wpo_neq (q := !(decide (m.t.kind = p.t.kind))) rfl rfl rfl rfl ?_
 refine wpo_nil ?_
 refine Xp rfl (fun h110 => ?_) (fun h110 => ?_)
 ·
  have h111 := Qi h110
  have h112 := of_decide_eq_false h111
  refine Xa ?_
  refine wpo_assign (v := .bool false) rfl rfl ?_
  refine wpo_nil ?_
  refine Xk ?_
  refine Xy ?_
  refine ⟨.bool false, res1 rfl rfl, ?_, hb108⟩
  exact congrArg Value.bool (decide_eq_false (fun h => of_decide_eq_false h111 (congrArg Th.kind h))).symm
 ·
  have h113 := Y5 h110
  have h114 := of_decide_eq_true h113
  refine Xm ?_
  refine Xo ?_
  refine Xh ?_
  refine Xa ?_
  refine wpo_fieldAddr (o' := 1) Ju rfl rfl rfl ?_
  refine wpo_loadn (vs := [.int .i64 m.t.lab.s, .int .i64 m.t.lab.v]) Qg rfl rfl (k109.rangeL 1 2 rfl) rfl ?_
  refine wpo_fieldAddr (o' := 1) Ju rfl rfl rfl ?_
  refine wpo_loadn (vs := [.int .i64 p.t.lab.s, .int .i64 p.t.lab.v]) Qg rfl rfl (hN107.blk.rangeL 1 2 rfl) rfl ?_
  refine Xi (vs := [.agg #[.int .i64 m.t.lab.s, .int .i64 m.t.lab.v], .agg #[.int .i64 p.t.lab.s, .int .i64 p.t.lab.v]]) Zd (Xc rfl (Xc rfl Xg)) rfl (Mz m.t.lab p.t.lab _) ?_
  rintro _ w115 ⟨rfl, hg116⟩
  have hb117 := low0 hb108 hg116
  refine wpo_not (b' := !(decide (m.t.lab = p.t.lab))) rfl rfl rfl ?_
  refine wpo_nil ?_
  refine Xp rfl (fun h118 => ?_) (fun h118 => ?_)
  ·
   have h119 := Qi h118
   have h120 := of_decide_eq_false h119
   refine Xa ?_
   refine wpo_assign (v := .bool false) rfl rfl ?_
   refine wpo_nil ?_
   refine Xk ?_
   refine Xy ?_
   refine ⟨.bool false, res1 rfl rfl, ?_, hb117⟩
   exact congrArg Value.bool (decide_eq_false (fun h => of_decide_eq_false h119 (congrArg Th.lab h))).symm
  ·
   have h121 := Y5 h118
   have h122 := of_decide_eq_true h121
   refine Xm ?_
   refine Xo ?_
   refine Xh ?_
   refine Xa ?_
   refine wpo_fieldAddr (o' := 3) Ji rfl rfl rfl ?_
   have k123 := (k109.grown0 hg116)
   refine wpo_load1 (v := .int .i64 m.t.ve) X1 rfl (k123.cell rfl) rfl ?_
   refine wpo_fieldAddr (o' := 3) Ji rfl rfl rfl ?_
   have k124 := (hN107.blk.grown0 hg116)
   refine wpo_load1 (v := .int .i64 p.t.ve) X1 rfl (k124.cell rfl) rfl ?_
   refine wpo_neq (q := !(decide (m.t.ve = p.t.ve))) rfl rfl rfl rfl ?_
   refine wpo_nil ?_
   refine Xp rfl (fun h125 => ?_) (fun h125 => ?_)
   ·
    have h126 := Qi h125
    have h127 := of_decide_eq_false h126
    refine Xa ?_
    refine wpo_assign (v := .bool false) rfl rfl ?_
    refine wpo_nil ?_
    refine Xk ?_
    refine Xy ?_
    refine ⟨.bool false, res1 rfl rfl, ?_, hb117⟩
    exact congrArg Value.bool (decide_eq_false (fun h => of_decide_eq_false h126 (congrArg Th.ve h))).symm
   ·
    have h128 := Y5 h125
    have h129 := of_decide_eq_true h128
    refine Xm ?_
    refine Xo ?_
    refine Xh ?_
    refine Xa ?_
    refine wpo_fieldAddr (o' := 4) Jv rfl rfl rfl ?_
    refine wpo_load1 (v := .int .i64 m.t.num) X1 rfl (k123.cell rfl) rfl ?_
    refine wpo_fieldAddr (o' := 4) Jv rfl rfl rfl ?_
    refine wpo_load1 (v := .int .i64 p.t.num) X1 rfl (k124.cell rfl) rfl ?_
    refine wpo_neq (q := !(decide (m.t.num = p.t.num))) rfl rfl rfl rfl ?_
    refine wpo_nil ?_
    refine Xp rfl (fun h130 => ?_) (fun h130 => ?_)
    ·
     have h131 := Qi h130
     have h132 := of_decide_eq_false h131
     refine Xa ?_
     refine wpo_assign (v := .bool false) rfl rfl ?_
     refine wpo_nil ?_
     refine Xk ?_
     refine Xy ?_
     refine ⟨.bool false, res1 rfl rfl, ?_, hb117⟩
     exact congrArg Value.bool (decide_eq_false (fun h => of_decide_eq_false h131 (congrArg Th.num h))).symm
    ·
     have h133 := Y5 h130
     have h134 := of_decide_eq_true h133
     refine Xm ?_
     refine Xo ?_
     refine Xh ?_
     refine Xa ?_
     refine wpo_fieldAddr (o' := 5) Y7 rfl rfl rfl ?_
     refine wpo_load1 (v := .slice m.sa m.t.slots.length m.sc) Jl rfl (k123.cell rfl) rfl ?_
     refine wpo_fieldAddr (o' := 5) Y7 rfl rfl rfl ?_
     refine wpo_load1 (v := .slice p.sa p.t.slots.length p.sc) Jl rfl (k124.cell rfl) rfl ?_
     refine Xi (vs := [.slice m.sa m.t.slots.length m.sc, .slice p.sa p.t.slots.length p.sc]) Ze (Xc rfl (Xc rfl Xg)) rfl (Sv _ m.t.slots p.t.slots _ _ _ _ (SlAt.low ha.1 hb117) (SlAt.low hb.1 hb117) (by first | omega | exact Nat.le_of_ble_eq_true rfl | (simp only [List.length_nil, List.length_cons, List.length_append, List.length_replicate]; omega)) (by first | omega | exact Nat.le_of_ble_eq_true rfl | (simp only [List.length_nil, List.length_cons, List.length_append, List.length_replicate]; omega))) ?_
     rintro _ w135 ⟨rfl, hg136⟩
     have hb137 := low0 hb117 hg136
     refine wpo_not (b' := !(decide (m.t.slots = p.t.slots))) rfl rfl rfl ?_
     refine wpo_nil ?_
     refine Xp rfl (fun h138 => ?_) (fun h138 => ?_)
     ·
      have h139 := Qi h138
      have h140 := of_decide_eq_false h139
      refine Xa ?_
      refine wpo_assign (v := .bool false) rfl rfl ?_
      refine wpo_nil ?_
      refine Xk ?_
      refine Xy ?_
      refine ⟨.bool false, res1 rfl rfl, ?_, hb137⟩
      exact congrArg Value.bool (decide_eq_false (fun h => of_decide_eq_false h139 (congrArg Th.slots h))).symm
     ·
      have h141 := Y5 h138
      have h142 := of_decide_eq_true h141
      refine Xm ?_
      refine Xo ?_
      refine Xh ?_
      refine Xa ?_
      refine wpo_fieldAddr (o' := 6) Qy rfl rfl rfl ?_
      have k143 := (k123.grown0 hg136)
      refine wpo_load1 (v := .slice m.qa m.t.queue.length m.qc) J5 rfl (k143.cell rfl) rfl ?_
      refine wpo_fieldAddr (o' := 6) Qy rfl rfl rfl ?_
      have k144 := (k124.grown0 hg136)
      refine wpo_load1 (v := .slice p.qa p.t.queue.length p.qc) J5 rfl (k144.cell rfl) rfl ?_
      refine Xi (vs := [.slice m.qa m.t.queue.length m.qc, .slice p.qa p.t.queue.length p.qc]) Zf (Xc rfl (Xc rfl Xg)) rfl (Cy _ m.t.queue p.t.queue _ _ _ _ (SlAt.low ha.2.1 hb137) (SlAt.low hb.2.1 hb137) (by first | omega | exact Nat.le_of_ble_eq_true rfl | (simp only [List.length_nil, List.length_cons, List.length_append, List.length_replicate]; omega)) (by first | omega | exact Nat.le_of_ble_eq_true rfl | (simp only [List.length_nil, List.length_cons, List.length_append, List.length_replicate]; omega))) ?_
      rintro _ w145 ⟨rfl, hg146⟩
      have hb147 := low0 hb137 hg146
      refine wpo_not (b' := !(decide (m.t.queue = p.t.queue))) rfl rfl rfl ?_
      refine wpo_nil ?_
      refine Xp rfl (fun h148 => ?_) (fun h148 => ?_)
      ·
       have h149 := Qi h148
       have h150 := of_decide_eq_false h149
       refine Xa ?_
       refine wpo_assign (v := .bool false) rfl rfl ?_
       refine wpo_nil ?_
       refine Xk ?_
       refine Xy ?_
       refine ⟨.bool false, res1 rfl rfl, ?_, hb147⟩
       exact congrArg Value.bool (decide_eq_false (fun h => of_decide_eq_false h149 (congrArg Th.queue h))).symm
      ·
       have h151 := Y5 h148
       have h152 := of_decide_eq_true h151
       refine Xm ?_
       refine Xo ?_
       refine Xh ?_
       refine Xa ?_
       refine wpo_fieldAddr (o' := 7) Q1 rfl rfl rfl ?_
       have k153 := (k143.grown0 hg146)
       refine wpo_load1 (v := .int .i64 m.t.to) X1 rfl (k153.cell rfl) rfl ?_
       refine wpo_fieldAddr (o' := 7) Q1 rfl rfl rfl ?_
       have k154 := (k144.grown0 hg146)
       refine wpo_load1 (v := .int .i64 p.t.to) X1 rfl (k154.cell rfl) rfl ?_
       refine wpo_neq (q := !(decide (m.t.to = p.t.to))) rfl rfl rfl rfl ?_
       refine wpo_nil ?_
       refine Xp rfl (fun h155 => ?_) (fun h155 => ?_)
       ·
        have h156 := Qi h155
        have h157 := of_decide_eq_false h156
        refine Xa ?_
        refine wpo_assign (v := .bool false) rfl rfl ?_
        refine wpo_nil ?_
        refine Xk ?_
        refine Xy ?_
        refine ⟨.bool false, res1 rfl rfl, ?_, hb147⟩
        exact congrArg Value.bool (decide_eq_false (fun h => of_decide_eq_false h156 (congrArg Th.to h))).symm
       ·
        have h158 := Y5 h155
        have h159 := of_decide_eq_true h158
        refine Xm ?_
        refine Xo ?_
        refine Xa ?_
        refine wpo_assign (v := .bool true) rfl rfl ?_
        refine wpo_nil ?_
        refine Xk ?_
        refine ⟨.bool true, res1 rfl rfl, ?_, hb147⟩
        exact congrArg Value.bool (decide_eq_true (Ts (of_decide_eq_true h113) (of_decide_eq_true h121) (of_decide_eq_true h128) (of_decide_eq_true h133) (of_decide_eq_true h141) (of_decide_eq_true h151) (of_decide_eq_true h158))).symm
theorem Gp [Comp] (l : Lab) (w : World) : CallsR Try.prog 30 #[.agg #[.int .i64 l.s, .int .i64 l.v]] w (fun v w' => v = .agg #[.int .i64 l.s, .int .i64 l.v] ∧ w.grownBy w' none) := by
 refine Xl (n := 11) Try.func30 rfl Try.ntmps30 rfl ?_
 have hb0 := World.grownBy.refl w none
 refine Xa ?_
 refine wpo_box (v := .agg #[.int .i64 l.s, .int .i64 l.v]) (cs := #[.int .i64 l.s, .int .i64 l.v]) rfl rfl rfl ?_
 intro B101 w102 hN103
 have hlB101 := Xv hN103 hb0
 have hb104 := low0 hb0 hN103.grw
 refine wpo_alloc (cs := #[.int .i64 0, .int .i64 0]) On rfl rfl ?_
 intro B105 w106 hN107
 have hlB105 := Xv hN107 hb104
 have lt_B101_B105 := Xr hN107 (hN103.blk).lt
 have hb108 := low0 hb104 hN107.grw
 refine wpo_nil ?_
 refine Xa ?_
 refine wpo_alloc (cs := #[.int .i64 0, .int .i64 0]) On rfl rfl ?_
 intro B109 w110 hN111
 have hlB109 := Xv hN111 hb108
 have k112 := (hN103.blk.grown0 hN107.grw)
 have lt_B101_B109 := Xr hN111 (k112).lt
 have lt_B105_B109 := Xr hN111 (hN107.blk).lt
 have hb113 := low0 hb108 hN111.grw
 refine wpo_nil ?_
 refine Xa ?_
 refine wpo_fieldAddr (o' := 0) Fb rfl rfl rfl ?_
 have k114 := (k112.grown0 hN111.grw)
 refine wpo_load1 (v := .int .i64 l.s) X1 rfl (k114.cell rfl) rfl ?_
 refine wpo_fieldAddr (o' := 0) Ke rfl rfl rfl ?_
 refine wpo_store1 (v := .int .i64 l.s) (cs' := #[.int .i64 l.s, .int .i64 0]) X1 rfl rfl rfl hN111.blk (Nat.le_of_ble_eq_true rfl) rfl ?_
 intro w115 hS116
 have hb117 := low1 hb113 hS116.grw (by omega)
 refine wpo_nil ?_
 refine Xa ?_
 refine wpo_fieldAddr (o' := 1) Fc rfl rfl rfl ?_
 have k118 := (k114.gn hS116.grw)
 refine wpo_load1 (v := .int .i64 l.v) X1 rfl (k118.cell rfl) rfl ?_
 refine wpo_fieldAddr (o' := 1) Kg rfl rfl rfl ?_
 refine wpo_store1 (v := .int .i64 l.v) (cs' := #[.int .i64 l.s, .int .i64 l.v]) X1 rfl rfl rfl hS116.blk (Nat.le_of_ble_eq_true rfl) rfl ?_
 intro w119 hS120
 have hb121 := low1 hb117 hS120.grw (by omega)
 refine wpo_nil ?_
 refine Xa ?_
 refine wpo_loadn (vs := [.int .i64 l.s, .int .i64 l.v]) Qg rfl rfl (hS120.blk.rangeL 0 2 rfl) rfl ?_
 have k122 := (((hN107.blk.grown0 hN111.grw).gn hS116.grw).gn hS120.grw)
 refine wpo_storen (vs := [.int .i64 l.s, .int .i64 l.v]) (cs' := #[.int .i64 l.s, .int .i64 l.v]) Qg rfl rfl rfl (by simp [Value.oneCell']) k122 (Nat.le_of_ble_eq_true rfl) rfl ?_
 intro w123 hS124
 have hb125 := low1 hb121 hS124.grw (by omega)
 refine wpo_nil ?_
 refine Xk ?_
 refine ⟨.agg #[.int .i64 l.s, .int .i64 l.v], resC rfl (resCell_mk (vs := [.int .i64 l.s, .int .i64 l.v]) Qg rfl rfl (hS124.blk.rangeL 0 2 rfl)), ?_, hb125⟩
 rfl
end Go.Dw.J
end
section
namespace Go.Dw.J
open Go.RowKit Go.Dw Go.Proofs
set_option linter.unusedSectionVars false
set_option maxRecDepth 100000
set_option maxHeartbeats 4000000
set_option linter.unusedSimpArgs false
set_option linter.unusedVariables false
theorem Jf : elemSz Try.prog 23 = some 8 := by kernel_rfl
theorem I3 : elemSz Try.prog 49 = some 8 := by kernel_rfl
theorem Fe : fieldOff Try.prog 92 0 = some 0 := by kernel_rfl
theorem Ff : fieldOff Try.prog 92 1 = some 1 := by kernel_rfl
theorem Fg : fieldOff Try.prog 92 2 = some 3 := by kernel_rfl
theorem Fh : fieldOff Try.prog 92 3 = some 4 := by kernel_rfl
theorem T3 : fieldOff Try.prog 92 4 = some 5 := by kernel_rfl
theorem T4 : fieldOff Try.prog 92 5 = some 6 := by kernel_rfl
theorem Fi : fieldOff Try.prog 92 6 = some 7 := by kernel_rfl
theorem O9 : goFn Try.prog 102 = true := by kernel_rfl
theorem Za : goFn Try.prog 103 = true := by kernel_rfl
theorem Zb : goFn Try.prog 104 = true := by kernel_rfl
theorem Zc : goFn Try.prog 105 = true := by kernel_rfl
theorem Dc : goFn Try.prog 30 = true := by kernel_rfl
theorem Dd : goFn Try.prog 56 = true := by kernel_rfl
theorem Xaw : goFn Try.prog 63 = true := by kernel_rfl
theorem Xax : goFn Try.prog 64 = true := by kernel_rfl
theorem Xay : goFn Try.prog 65 = true := by kernel_rfl
theorem Dm : mkTy Try.prog 23 = some (35, 8, 96, some (.agg #[.int .i64 0, .int .i64 0, .int .i64 0, .int .i64 0, .int .i64 0, .slice none 0 0, .slice none 0 0, .int .i64 0])) := by kernel_rfl
theorem Dn : mkTy Try.prog 33 = some (3, 1, 8, some (.int .i64 0)) := by kernel_rfl
theorem Oh : oneTy Try.prog 90 = true := by kernel_rfl
theorem D6 : rowTy Try.prog 50 = some 2 := by kernel_rfl
theorem Oi : rowTy Try.prog 92 = some 8 := by kernel_rfl
theorem Ec [Comp] (m : Int) (w : World) (xs : List Int) (a : Option Addr) (c : Nat) (hn : xs.length ≤ 9223372036854775807) (hm : 0 ≤ m ∧ m ≤ 1048576) : CallsR Try.prog 103 #[.slice a xs.length c, .int .i64 m] w (fun v w' => ∃ n : Int, v = .int .i64 n ∧ (0 ≤ n → (xs.length : Int) + n ≤ m) ∧ -1 ≤ n ∧ n ≤ m ∧ w.grownBy w' none) := by
 refine Xl (n := 12) Try.func103 rfl Try.ntmps103 rfl ?_
 have hb0 := World.grownBy.refl w none
 refine Xa ?_
 refine wpo_assign (v := .int .i64 0) rfl rfl ?_
 refine wpo_nil ?_
 refine Xa ?_
 refine wpo_move (v := .int .i64 m) rfl rfl ?_
 refine wpo_move (v := .slice a xs.length c) rfl rfl ?_
 refine wpo_len (by kernel_rfl) rfl rfl ?_
 refine wpo_sub (c := m - (xs.length : Int)) rfl rfl (by omega) (by omega) (by omega) rfl ?_
 refine wpo_assign (v := .int .i64 (m - (xs.length : Int))) rfl rfl ?_
 refine wpo_nil ?_
 refine Xh ?_
 refine Xa ?_
 refine wpo_move (v := .int .i64 (m - (xs.length : Int))) rfl rfl ?_
 refine wpo_lss (q := decide (m - (xs.length : Int) < 0)) rfl rfl rfl rfl ?_
 refine wpo_nil ?_
 refine Xp rfl (fun h101 => ?_) (fun h101 => ?_)
 ·
  have h102 := of_decide_eq_true h101
  refine Xa ?_
  refine wpo_assign (v := .int .i64 (-1)) rfl rfl ?_
  refine wpo_nil ?_
  refine Xk ?_
  refine Xy ?_
  refine ⟨.int .i64 (-1), res1 rfl rfl, (-1), rfl, by omega, by omega, by omega, hb0⟩
 ·
  have h103 := of_decide_eq_false h101
  refine Xm ?_
  refine Xo ?_
  refine Xa ?_
  refine wpo_move (v := .int .i64 (m - (xs.length : Int))) rfl rfl ?_
  refine wpo_assign (v := .int .i64 (m - (xs.length : Int))) rfl rfl ?_
  refine wpo_nil ?_
  refine Xk ?_
  refine ⟨.int .i64 (m - (xs.length : Int)), res1 rfl rfl, (m - (xs.length : Int)), rfl, by omega, by omega, by omega, hb0⟩
theorem Ce [Comp] (m : Int) (w : World) (q : MTh) (hq : ThAt w q) (hn : q.t.slots.length ≤ 9223372036854775807 ∧ q.t.queue.length ≤ 9223372036854775807) (hm : 0 ≤ m ∧ m ≤ 1048576) : CallsR Try.prog 63 #[.agg #[.int .i64 q.t.kind, .int .i64 q.t.lab.s, .int .i64 q.t.lab.v, .int .i64 q.t.ve, .int .i64 q.t.num, .slice q.sa q.t.slots.length q.sc, .slice q.qa q.t.queue.length q.qc, .int .i64 q.t.to], .int .i64 m] w (fun v w' => ∃ n : Int, v = .int .i64 n ∧ (0 ≤ n → (q.t.slots.length : Int) + q.t.queue.length + n ≤ m) ∧ -1 ≤ n ∧ n ≤ m ∧ w.grownBy w' none) := by
 refine Xl (n := 18) Try.func63 rfl Try.ntmps63 rfl ?_
 have hb0 := World.grownBy.refl w none
 refine Xa ?_
 refine wpo_box (v := .agg #[.int .i64 q.t.kind, .int .i64 q.t.lab.s, .int .i64 q.t.lab.v, .int .i64 q.t.ve, .int .i64 q.t.num, .slice q.sa q.t.slots.length q.sc, .slice q.qa q.t.queue.length q.qc, .int .i64 q.t.to]) (cs := #[.int .i64 q.t.kind, .int .i64 q.t.lab.s, .int .i64 q.t.lab.v, .int .i64 q.t.ve, .int .i64 q.t.num, .slice q.sa q.t.slots.length q.sc, .slice q.qa q.t.queue.length q.qc, .int .i64 q.t.to]) rfl rfl rfl ?_
 intro B101 w102 hN103
 have hlB101 := Xv hN103 hb0
 have hb104 := low0 hb0 hN103.grw
 refine wpo_assign (v := .int .i64 0) rfl rfl ?_
 refine wpo_nil ?_
 refine Xa ?_
 refine wpo_fieldAddr (o' := 5) T3 rfl rfl rfl ?_
 refine wpo_load1 (v := .slice q.sa q.t.slots.length q.sc) Oh rfl (hN103.blk.cell rfl) rfl ?_
 refine wpo_move (v := .int .i64 m) rfl rfl ?_
 refine Xi (vs := [.slice q.sa q.t.slots.length q.sc, .int .i64 m]) O9 (Xc rfl (Xc rfl Xg)) rfl (Tq m _ q.t.slots _ _ (by omega) (by omega)) ?_
 rintro _ w105 ⟨n107, rfl, hn108, hn109, hn110, hg106⟩
 have hb111 := low0 hb104 hg106
 refine wpo_assign (v := .int .i64 n107) rfl rfl ?_
 refine wpo_nil ?_
 refine Xh ?_
 refine Xa ?_
 refine wpo_move (v := .int .i64 n107) rfl rfl ?_
 refine wpo_lss (q := decide (n107 < 0)) rfl rfl rfl rfl ?_
 refine wpo_nil ?_
 refine Xp rfl (fun h112 => ?_) (fun h112 => ?_)
 ·
  have h113 := of_decide_eq_true h112
  refine Xa ?_
  refine wpo_assign (v := .int .i64 (-1)) rfl rfl ?_
  refine wpo_nil ?_
  refine Xk ?_
  refine Xy ?_
  refine ⟨.int .i64 (-1), res1 rfl rfl, (-1), rfl, by omega, by omega, by omega, hb111⟩
 ·
  have h114 := of_decide_eq_false h112
  refine Xm ?_
  refine Xo ?_
  refine Xa ?_
  refine wpo_fieldAddr (o' := 6) T4 rfl rfl rfl ?_
  have k115 := (hN103.blk.grown0 hg106)
  refine wpo_load1 (v := .slice q.qa q.t.queue.length q.qc) J5 rfl (k115.cell rfl) rfl ?_
  refine wpo_move (v := .int .i64 n107) rfl rfl ?_
  refine Xi (vs := [.slice q.qa q.t.queue.length q.qc, .int .i64 n107]) Za (Xc rfl (Xc rfl Xg)) rfl (Ec n107 _ q.t.queue _ _ (by omega) (by omega)) ?_
  rintro _ w116 ⟨n118, rfl, hn119, hn120, hn121, hg117⟩
  have hb122 := low0 hb111 hg117
  refine wpo_assign (v := .int .i64 n118) rfl rfl ?_
  refine wpo_nil ?_
  refine Xh ?_
  refine Xa ?_
  refine wpo_move (v := .int .i64 n118) rfl rfl ?_
  refine wpo_lss (q := decide (n118 < 0)) rfl rfl rfl rfl ?_
  refine wpo_nil ?_
  refine Xp rfl (fun h123 => ?_) (fun h123 => ?_)
  ·
   have h124 := of_decide_eq_true h123
   refine Xa ?_
   refine wpo_assign (v := .int .i64 (-1)) rfl rfl ?_
   refine wpo_nil ?_
   refine Xk ?_
   refine Xy ?_
   refine ⟨.int .i64 (-1), res1 rfl rfl, (-1), rfl, by omega, by omega, by omega, hb122⟩
  ·
   have h125 := of_decide_eq_false h123
   refine Xm ?_
   refine Xo ?_
   refine Xa ?_
   refine wpo_move (v := .int .i64 n118) rfl rfl ?_
   refine wpo_assign (v := .int .i64 n118) rfl rfl ?_
   refine wpo_nil ?_
   refine Xk ?_
   refine ⟨.int .i64 n118, res1 rfl rfl, n118, rfl, by omega, by omega, by omega, hb122⟩
theorem Lb [Comp] (m : Int) (w : World) (ms : List MTh) (a : Option Addr) (c : Nat) (ht : TabAt w a ms) (hbig : TabBig ms) (hn : ms.length ≤ 9223372036854775807) (hm : 0 ≤ m ∧ m ≤ 1048576) : CallsR Try.prog 28 #[.slice a ms.length c, .int .i64 m] w (fun v w' => ∃ n : Int, v = .int .i64 n ∧ (0 ≤ n → TabLen ms ∧ ms.length ≤ 1048576) ∧ -1 ≤ n ∧ n ≤ 1048576 ∧ w.grownBy w' none) := by
 refine Xl (n := 27) Try.func28 rfl Try.ntmps28 rfl ?_
 have hb0 := World.grownBy.refl w none
 refine Xa ?_
 refine wpo_assign (v := .int .i64 0) rfl rfl ?_
 refine wpo_nil ?_
 refine Xa ?_
 refine wpo_move (v := .int .i64 m) rfl rfl ?_
 refine wpo_move (v := .slice a ms.length c) rfl rfl ?_
 refine wpo_len (by kernel_rfl) rfl rfl ?_
 refine wpo_sub (c := m - (ms.length : Int)) rfl rfl (by omega) (by omega) (by omega) rfl ?_
 refine wpo_assign (v := .int .i64 (m - (ms.length : Int))) rfl rfl ?_
 refine wpo_nil ?_
 refine Xh ?_
 refine Xa ?_
 refine wpo_move (v := .int .i64 (m - (ms.length : Int))) rfl rfl ?_
 refine wpo_lss (q := decide (m - (ms.length : Int) < 0)) rfl rfl rfl rfl ?_
 refine wpo_nil ?_
 refine Xp rfl (fun h101 => ?_) (fun h101 => ?_)
 ·
  have h102 := of_decide_eq_true h101
  refine Xa ?_
  refine wpo_assign (v := .int .i64 (-1)) rfl rfl ?_
  refine wpo_nil ?_
  refine Xk ?_
  refine Xy ?_
  refine ⟨.int .i64 (-1), res1 rfl rfl, (-1), rfl, fun h => absurd h (by omega), by omega, by omega, hb0⟩
 ·
  have h103 := of_decide_eq_false h101
  refine Xm ?_
  refine Xo ?_
  refine Xh ?_
  refine Xa ?_
  refine wpo_assign (v := .int .i64 0) rfl rfl ?_
  refine wpo_nil ?_
  refine Xu ?_
  refine Yf (fun mm f' w' => ∃ (k : Nat) (n : Int), mm = ms.length - k ∧ k ≤ ms.length ∧ (0 ≤ n ∧ n ≤ 1048576) ∧ (∀ x ∈ ms.take k, x.t.slots.length ≤ 1048576 ∧ x.t.queue.length ≤ 1048576) ∧ f' 1 = .int .i64 n ∧ f' 5 = .int .i64 (k : Int) ∧ f' 0 = .slice a ms.length c ∧ w.grownBy w' none) (ms.length - 0) ⟨0, (m - (ms.length : Int)), rfl, (Nat.zero_le _), (by omega), (fun x hx => by simp at hx), rfl, rfl, rfl, hb0⟩ ?_
  rintro mm f104 w105 ⟨k, n, hm107, hk, hnn, htl, e108, e109, e110, hb106⟩
  refine Xh ?_
  refine Xa ?_
  refine wpo_move (v := .int .i64 (k : Int)) e109 rfl ?_
  refine wpo_move (v := .slice a ms.length c) e110 rfl ?_
  refine wpo_len (by kernel_rfl) rfl rfl ?_
  refine wpo_lss (q := decide ((k : Int) < (ms.length : Int))) rfl rfl rfl rfl ?_
  refine wpo_nil ?_
  refine Xp rfl (fun h111 => ?_) (fun h111 => ?_)
  ·
   have h112 := of_decide_eq_true h111
   refine Xm ?_
   refine Xo ?_
   refine Xh ?_
   refine Xu ?_
   refine Xa ?_
   refine wpo_move (v := .slice a ms.length c) e110 rfl ?_
   refine wpo_move (v := .int .i64 (k : Int)) e109 rfl ?_
   obtain ⟨b115, q116, o117, ha118, ho119, hr120⟩ := SlAt.at (TabAt.low ht hb106).1 (Yc (Xx (show k < ms.length by omega)))
   have hle121 := TabBig.at hbig (Xx (show k < ms.length by omega))
   refine Xz I3 rfl rfl ha118 ho119 (by omega) (by omega) rfl ?_
   refine wpo_loadn (vs := [.int .i64 ((mAt ms k).t.kind), .int .i64 ((mAt ms k).t.lab.s), .int .i64 ((mAt ms k).t.lab.v), .int .i64 ((mAt ms k).t.ve), .int .i64 ((mAt ms k).t.num), .slice ((mAt ms k).sa) ((mAt ms k).t.slots.length) ((mAt ms k).sc), .slice ((mAt ms k).qa) ((mAt ms k).t.queue.length) ((mAt ms k).qc), .int .i64 ((mAt ms k).t.to)]) Oi rfl rfl (Yq hr120 0 8 rfl) rfl ?_
   refine wpo_move (v := .int .i64 n) e108 rfl ?_
   refine Xi (vs := [.agg #[.int .i64 ((mAt ms k).t.kind), .int .i64 ((mAt ms k).t.lab.s), .int .i64 ((mAt ms k).t.lab.v), .int .i64 ((mAt ms k).t.ve), .int .i64 ((mAt ms k).t.num), .slice ((mAt ms k).sa) ((mAt ms k).t.slots.length) ((mAt ms k).sc), .slice ((mAt ms k).qa) ((mAt ms k).t.queue.length) ((mAt ms k).qc), .int .i64 ((mAt ms k).t.to)], .int .i64 n]) Xaw (Xc rfl (Xc rfl Xg)) rfl (Ce n _ (mAt ms k) (TabAt.th (TabAt.low ht hb106) (Xx (show k < ms.length by omega))) (by omega) (by omega)) ?_
   rintro _ w122 ⟨n124, rfl, hn125, hn126, hn127, hg123⟩
   have hb128 := low0 hb106 hg123
   refine wpo_assign (v := .int .i64 n124) rfl rfl ?_
   refine wpo_nil ?_
   refine Xa ?_
   refine wpo_move (v := .int .i64 n124) rfl rfl ?_
   refine wpo_lss (q := decide (n124 < 0)) rfl rfl rfl rfl ?_
   refine wpo_nil ?_
   refine Xp rfl (fun h129 => ?_) (fun h129 => ?_)
   ·
    have h130 := of_decide_eq_true h129
    refine Xa ?_
    refine wpo_assign (v := .int .i64 (-1)) rfl rfl ?_
    refine wpo_nil ?_
    refine Xk ?_
    refine Y4 ?_
    refine Xy ?_
    refine Xy ?_
    refine Y4 ?_
    refine Xy ?_
    refine ⟨.int .i64 (-1), res1 rfl rfl, (-1), rfl, fun h => absurd h (by omega), by omega, by omega, hb128⟩
   ·
    have h131 := of_decide_eq_false h129
    refine Xm ?_
    refine Je ?_
    refine Xo ?_
    refine Xs ?_
    refine wpo_move (v := .int .i64 (k : Int)) e109 rfl ?_
    refine wpo_add (c := (k : Int) + 1) rfl rfl (by omega) (by omega) (by omega) rfl ?_
    refine wpo_assign (v := .int .i64 ((k : Int) + 1)) rfl rfl ?_
    refine wpo_nil ?_
    refine Xo ?_
    exact ⟨ms.length - (k + 1), by omega, (k + 1), n124, rfl, (by omega), (by omega), (Ef htl (Xx (show k < ms.length by omega)) (by omega)), rfl, rfl, e110, hb128⟩
  ·
   have h132 := of_decide_eq_false h111
   refine Yo ?_
   refine Yz ?_
   refine Yz ?_
   refine Jn ?_
   refine Xo ?_
   refine Xa ?_
   refine wpo_move (v := .int .i64 n) e108 rfl ?_
   refine wpo_assign (v := .int .i64 n) rfl rfl ?_
   refine wpo_nil ?_
   refine Xk ?_
   refine ⟨.int .i64 n, res1 rfl rfl, n, rfl, fun _ => ⟨N8 htl (by omega), by omega⟩, by omega, by omega, hb106⟩
theorem Ei [Comp] (w : World) (xs : List Int) (a : Option Addr) (c : Nat) (hs : SlAt w a 1 (xs.map icell)) (hn : xs.length ≤ 1048576) : CallsR Try.prog 105 #[.slice a xs.length c] w (fun v w' => ∃ B : Nat, v = .slice (some ⟨B, 0, none⟩) xs.length xs.length ∧ w.heap.size ≤ B ∧ Blk w' B 3 (xs.flatMap icell).toArray ∧ w.grownBy w' none) := by
 refine Xl (n := 22) Try.func105 rfl Try.ntmps105 rfl ?_
 have hb0 := World.grownBy.refl w none
 refine Xa ?_
 refine wpo_assign (v := .slice none 0 0) rfl rfl ?_
 refine wpo_nil ?_
 refine Xa ?_
 refine wpo_move (v := .slice a xs.length c) rfl rfl ?_
 refine wpo_len (by kernel_rfl) rfl rfl ?_
 refine wpo_make (g := icell) (z := (0 : Int)) (c := xs.length) Dn rfl Qb (by omega) rfl rfl (by omega) (by omega) rfl ?_
 intro B101 w102 hN103
 have hlB101 := Xv hN103 hb0
 have hb104 := low0 hb0 hN103.grw
 refine wpo_assign (v := .slice (some ⟨B101, 0, none⟩) xs.length xs.length) rfl rfl ?_
 refine wpo_nil ?_
 refine Xh ?_
 refine Xa ?_
 refine wpo_assign (v := .int .i64 0) rfl rfl ?_
 refine wpo_nil ?_
 refine Xu ?_
 refine Yf (fun mm f' w' => ∃ (k : Nat), mm = xs.length - k ∧ k ≤ xs.length ∧ (fill xs (0 : Int) k).length = xs.length ∧ f' 4 = .int .i64 (k : Int) ∧ f' 0 = .slice a xs.length c ∧ f' 2 = .slice none 0 0 ∧ f' 3 = .slice (some ⟨B101, 0, none⟩) xs.length xs.length ∧ w.grownBy w' none ∧ Blk w' B101 3 ((fill xs (0 : Int) k).flatMap icell).toArray) (xs.length - 0) ⟨0, rfl, (Nat.zero_le _), (Ws (Nat.zero_le _)), rfl, rfl, rfl, rfl, hb104, (by rw [Ln]; exact hN103.blk)⟩ ?_
 rintro mm f105 w106 ⟨k, hm108, hk, hfl, e109, e110, e111, e112, hb107, k113⟩
 refine Xh ?_
 refine Xa ?_
 refine wpo_move (v := .int .i64 (k : Int)) e109 rfl ?_
 refine wpo_move (v := .slice a xs.length c) e110 rfl ?_
 refine wpo_len (by kernel_rfl) rfl rfl ?_
 refine wpo_lss (q := decide ((k : Int) < (xs.length : Int))) rfl rfl rfl rfl ?_
 refine wpo_nil ?_
 refine Xp rfl (fun h114 => ?_) (fun h114 => ?_)
 ·
  have h115 := of_decide_eq_true h114
  refine Xm ?_
  refine Xo ?_
  refine Xh ?_
  refine Xu ?_
  refine Xs ?_
  refine wpo_move (v := .slice (some ⟨B101, 0, none⟩) xs.length xs.length) e112 rfl ?_
  refine wpo_move (v := .int .i64 (k : Int)) e109 rfl ?_
  refine wpo_move (v := .slice a xs.length c) e110 rfl ?_
  refine wpo_move (v := .int .i64 (k : Int)) e109 rfl ?_
  obtain ⟨x116, hx117⟩ := Qx (l := xs) (i := k) (by omega)
  obtain ⟨b118, q119, o120, ha121, ho122, hr123⟩ := SlAt.at hs (Yc hx117)
  refine Xz Wq rfl rfl ha121 ho122 (by omega) (by omega) rfl ?_
  refine wpo_load1 (v := .int .i64 x116) X1 rfl ((Yd hr123 hb107) 0 _ rfl) rfl ?_
  refine wpo_indexAddr (o' := k * 1) Wq rfl rfl (by omega) (by omega) (by omega) rfl ?_
  obtain ⟨x126, hx127⟩ := Qx (l := fill xs (0 : Int) k) (i := k) (by omega)
  refine wpo_store1 (v := .int .i64 x116) (cs' := (((fill xs (0 : Int) k).set k x116).flatMap icell).toArray) X1 rfl rfl rfl k113 (D4 (j := 0) Qb hx127 (by omega)) (B5 (j := 0) Qb hx127 x116 (by omega) rfl) ?_
  intro w124 hS125
  have hb128 := low1 hb107 hS125.grw (by omega)
  refine wpo_nil ?_
  refine Je ?_
  refine Xo ?_
  refine Xs ?_
  refine wpo_move (v := .int .i64 (k : Int)) e109 rfl ?_
  refine wpo_add (c := (k : Int) + 1) rfl rfl (by omega) (by omega) (by omega) rfl ?_
  refine wpo_assign (v := .int .i64 ((k : Int) + 1)) rfl rfl ?_
  refine wpo_nil ?_
  refine Xo ?_
  exact ⟨xs.length - (k + 1), by omega, (k + 1), rfl, (by omega), (Ws (by omega)), rfl, e110, e111, e112, hb128, (by have kk := hS125.blk; rw [P0 hx117] at kk; exact kk)⟩
 ·
  have h129 := of_decide_eq_false h114
  refine Yo ?_
  refine Yz ?_
  refine Yz ?_
  refine Jn ?_
  refine Xo ?_
  refine Xa ?_
  refine wpo_move (v := .slice (some ⟨B101, 0, none⟩) xs.length xs.length) e112 rfl ?_
  refine wpo_assign (v := .slice (some ⟨B101, 0, none⟩) xs.length xs.length) rfl rfl ?_
  refine wpo_nil ?_
  refine Xk ?_
  refine ⟨.slice (some ⟨B101, 0, none⟩) xs.length xs.length, res1 rfl rfl, B101, rfl, hlB101, ?_, hb107⟩
  have kk := k113
  rw [Pz (by omega)] at kk
  exact kk
theorem Cg [Comp] (w : World) (q : MTh) (hq : ThAt w q) (hn : q.t.slots.length ≤ 1048576 ∧ q.t.queue.length ≤ 1048576) : CallsR Try.prog 64 #[.agg #[.int .i64 q.t.kind, .int .i64 q.t.lab.s, .int .i64 q.t.lab.v, .int .i64 q.t.ve, .int .i64 q.t.num, .slice q.sa q.t.slots.length q.sc, .slice q.qa q.t.queue.length q.qc, .int .i64 q.t.to]] w (fun v w' => ∃ m : MTh, v = .agg #[.int .i64 m.t.kind, .int .i64 m.t.lab.s, .int .i64 m.t.lab.v, .int .i64 m.t.ve, .int .i64 m.t.num, .slice m.sa m.t.slots.length m.sc, .slice m.qa m.t.queue.length m.qc, .int .i64 m.t.to] ∧ m.t = q.t ∧ (∀ b, b < w.heap.size → ThX (some b) w' m) ∧ w.grownBy w' none) := by
 refine Xl (n := 29) Try.func64 rfl Try.ntmps64 rfl ?_
 have hb0 := World.grownBy.refl w none
 refine Xa ?_
 refine wpo_box (v := .agg #[.int .i64 q.t.kind, .int .i64 q.t.lab.s, .int .i64 q.t.lab.v, .int .i64 q.t.ve, .int .i64 q.t.num, .slice q.sa q.t.slots.length q.sc, .slice q.qa q.t.queue.length q.qc, .int .i64 q.t.to]) (cs := #[.int .i64 q.t.kind, .int .i64 q.t.lab.s, .int .i64 q.t.lab.v, .int .i64 q.t.ve, .int .i64 q.t.num, .slice q.sa q.t.slots.length q.sc, .slice q.qa q.t.queue.length q.qc, .int .i64 q.t.to]) rfl rfl rfl ?_
 intro B101 w102 hN103
 have hlB101 := Xv hN103 hb0
 have hb104 := low0 hb0 hN103.grw
 refine wpo_alloc (cs := #[.int .i64 0, .int .i64 0, .int .i64 0, .int .i64 0, .int .i64 0, .slice none 0 0, .slice none 0 0, .int .i64 0]) Jd rfl rfl ?_
 intro B105 w106 hN107
 have hlB105 := Xv hN107 hb104
 have lt_B101_B105 := Xr hN107 (hN103.blk).lt
 have hb108 := low0 hb104 hN107.grw
 refine wpo_nil ?_
 refine Xa ?_
 refine wpo_alloc (cs := #[.int .i64 0, .int .i64 0, .int .i64 0, .int .i64 0, .int .i64 0, .slice none 0 0, .slice none 0 0, .int .i64 0]) Jd rfl rfl ?_
 intro B109 w110 hN111
 have hlB109 := Xv hN111 hb108
 have k112 := (hN103.blk.grown0 hN107.grw)
 have lt_B101_B109 := Xr hN111 (k112).lt
 have lt_B105_B109 := Xr hN111 (hN107.blk).lt
 have hb113 := low0 hb108 hN111.grw
 refine wpo_nil ?_
 refine Xa ?_
 refine wpo_fieldAddr (o' := 0) Fe rfl rfl rfl ?_
 have k114 := (k112.grown0 hN111.grw)
 refine wpo_load1 (v := .int .i64 q.t.kind) X1 rfl (k114.cell rfl) rfl ?_
 refine wpo_fieldAddr (o' := 0) Yg rfl rfl rfl ?_
 refine wpo_store1 (v := .int .i64 q.t.kind) (cs' := #[.int .i64 q.t.kind, .int .i64 0, .int .i64 0, .int .i64 0, .int .i64 0, .slice none 0 0, .slice none 0 0, .int .i64 0]) X1 rfl rfl rfl hN111.blk (Nat.le_of_ble_eq_true rfl) rfl ?_
 intro w115 hS116
 have hb117 := low1 hb113 hS116.grw (by omega)
 refine wpo_nil ?_
 refine Xa ?_
 refine wpo_fieldAddr (o' := 1) Ff rfl rfl rfl ?_
 have k118 := (k114.gn hS116.grw)
 refine wpo_loadn (vs := [.int .i64 q.t.lab.s, .int .i64 q.t.lab.v]) D6 rfl rfl (k118.rangeL 1 2 rfl) rfl ?_
 refine Xi (vs := [.agg #[.int .i64 q.t.lab.s, .int .i64 q.t.lab.v]]) Dc (Xc rfl Xg) rfl (Gp q.t.lab _) ?_
 rintro _ w119 ⟨rfl, hg120⟩
 have hb121 := low0 hb117 hg120
 refine wpo_fieldAddr (o' := 1) Ju rfl rfl rfl ?_
 have k122 := (hS116.blk.grown0 hg120)
 refine wpo_storen (vs := [.int .i64 q.t.lab.s, .int .i64 q.t.lab.v]) (cs' := #[.int .i64 q.t.kind, .int .i64 q.t.lab.s, .int .i64 q.t.lab.v, .int .i64 0, .int .i64 0, .slice none 0 0, .slice none 0 0, .int .i64 0]) Qg rfl rfl rfl (by simp [Value.oneCell']) k122 (Nat.le_of_ble_eq_true rfl) rfl ?_
 intro w123 hS124
 have hb125 := low1 hb121 hS124.grw (by omega)
 refine wpo_nil ?_
 refine Xa ?_
 refine wpo_fieldAddr (o' := 3) Fg rfl rfl rfl ?_
 have k126 := ((k118.grown0 hg120).gn hS124.grw)
 refine wpo_load1 (v := .int .i64 q.t.ve) X1 rfl (k126.cell rfl) rfl ?_
 refine wpo_fieldAddr (o' := 3) Ji rfl rfl rfl ?_
 refine wpo_store1 (v := .int .i64 q.t.ve) (cs' := #[.int .i64 q.t.kind, .int .i64 q.t.lab.s, .int .i64 q.t.lab.v, .int .i64 q.t.ve, .int .i64 0, .slice none 0 0, .slice none 0 0, .int .i64 0]) X1 rfl rfl rfl hS124.blk (Nat.le_of_ble_eq_true rfl) rfl ?_
 intro w127 hS128
 have hb129 := low1 hb125 hS128.grw (by omega)
 refine wpo_nil ?_
 refine Xa ?_
 refine wpo_fieldAddr (o' := 4) Fh rfl rfl rfl ?_
 have k130 := (k126.gn hS128.grw)
 refine wpo_load1 (v := .int .i64 q.t.num) X1 rfl (k130.cell rfl) rfl ?_
 refine wpo_fieldAddr (o' := 4) Jv rfl rfl rfl ?_
 refine wpo_store1 (v := .int .i64 q.t.num) (cs' := #[.int .i64 q.t.kind, .int .i64 q.t.lab.s, .int .i64 q.t.lab.v, .int .i64 q.t.ve, .int .i64 q.t.num, .slice none 0 0, .slice none 0 0, .int .i64 0]) X1 rfl rfl rfl hS128.blk (Nat.le_of_ble_eq_true rfl) rfl ?_
 intro w131 hS132
 have hb133 := low1 hb129 hS132.grw (by omega)
 refine wpo_nil ?_
 refine Xa ?_
 refine wpo_fieldAddr (o' := 5) T3 rfl rfl rfl ?_
 have k134 := (k130.gn hS132.grw)
 refine wpo_load1 (v := .slice q.sa q.t.slots.length q.sc) Oh rfl (k134.cell rfl) rfl ?_
 have k135 := ((((((hN107.blk.grown0 hN111.grw).gn hS116.grw).grown0 hg120).gn hS124.grw).gn hS128.grw).gn hS132.grw)
 refine Xi (vs := [.slice q.sa q.t.slots.length q.sc]) Zb (Xc rfl Xg) rfl (Tt _ q.t.slots _ _ (ThAt.low hq hb133).1 (by omega)) ?_
 rintro _ w140 ⟨B136, rfl, hge137, k138, hg139⟩
 have hb141 := low0 hb133 hg139
 have hlB136 := Nat.le_trans hb133.size hge137
 have lt_B101_B136 := Nat.lt_of_lt_of_le (k134).lt hge137
 have lt_B105_B136 := Nat.lt_of_lt_of_le (k135).lt hge137
 have lt_B109_B136 := Nat.lt_of_lt_of_le (hS132.blk).lt hge137
 refine wpo_fieldAddr (o' := 5) Y7 rfl rfl rfl ?_
 have k142 := (hS132.blk.grown0 hg139)
 refine wpo_store1 (v := .slice (some ⟨B136, 0, none⟩) q.t.slots.length q.t.slots.length) (cs' := #[.int .i64 q.t.kind, .int .i64 q.t.lab.s, .int .i64 q.t.lab.v, .int .i64 q.t.ve, .int .i64 q.t.num, .slice (some ⟨B136, 0, none⟩) q.t.slots.length q.t.slots.length, .slice none 0 0, .int .i64 0]) Jl rfl rfl rfl k142 (Nat.le_of_ble_eq_true rfl) rfl ?_
 intro w143 hS144
 have hb145 := low1 hb141 hS144.grw (by omega)
 refine wpo_nil ?_
 refine Xa ?_
 refine wpo_fieldAddr (o' := 6) T4 rfl rfl rfl ?_
 have k146 := ((k134.grown0 hg139).gn hS144.grw)
 refine wpo_load1 (v := .slice q.qa q.t.queue.length q.qc) J5 rfl (k146.cell rfl) rfl ?_
 have k147 := ((k135.grown0 hg139).gn hS144.grw)
 have k148 := (k138.gn hS144.grw)
 refine Xi (vs := [.slice q.qa q.t.queue.length q.qc]) Zc (Xc rfl Xg) rfl (Ei _ q.t.queue _ _ (ThAt.low hq hb145).2.1 (by omega)) ?_
 rintro _ w153 ⟨B149, rfl, hge150, k151, hg152⟩
 have hb154 := low0 hb145 hg152
 have hlB149 := Nat.le_trans hb145.size hge150
 have lt_B101_B149 := Nat.lt_of_lt_of_le (k146).lt hge150
 have lt_B105_B149 := Nat.lt_of_lt_of_le (k147).lt hge150
 have lt_B109_B149 := Nat.lt_of_lt_of_le (hS144.blk).lt hge150
 have lt_B136_B149 := Nat.lt_of_lt_of_le (k148).lt hge150
 refine wpo_fieldAddr (o' := 6) Qy rfl rfl rfl ?_
 have k155 := (hS144.blk.grown0 hg152)
 refine wpo_store1 (v := .slice (some ⟨B149, 0, none⟩) q.t.queue.length q.t.queue.length) (cs' := #[.int .i64 q.t.kind, .int .i64 q.t.lab.s, .int .i64 q.t.lab.v, .int .i64 q.t.ve, .int .i64 q.t.num, .slice (some ⟨B136, 0, none⟩) q.t.slots.length q.t.slots.length, .slice (some ⟨B149, 0, none⟩) q.t.queue.length q.t.queue.length, .int .i64 0]) J5 rfl rfl rfl k155 (Nat.le_of_ble_eq_true rfl) rfl ?_
 intro w156 hS157
 have hb158 := low1 hb154 hS157.grw (by omega)
 refine wpo_nil ?_
 refine Xa ?_
 refine wpo_fieldAddr (o' := 7) Fi rfl rfl rfl ?_
 have k159 := ((k146.grown0 hg152).gn hS157.grw)
 refine wpo_load1 (v := .int .i64 q.t.to) X1 rfl (k159.cell rfl) rfl ?_
 refine wpo_fieldAddr (o' := 7) Q1 rfl rfl rfl ?_
 refine wpo_store1 (v := .int .i64 q.t.to) (cs' := #[.int .i64 q.t.kind, .int .i64 q.t.lab.s, .int .i64 q.t.lab.v, .int .i64 q.t.ve, .int .i64 q.t.num, .slice (some ⟨B136, 0, none⟩) q.t.slots.length q.t.slots.length, .slice (some ⟨B149, 0, none⟩) q.t.queue.length q.t.queue.length, .int .i64 q.t.to]) X1 rfl rfl rfl hS157.blk (Nat.le_of_ble_eq_true rfl) rfl ?_
 intro w160 hS161
 have hb162 := low1 hb158 hS161.grw (by omega)
 refine wpo_nil ?_
 refine Xa ?_
 refine wpo_loadn (vs := [.int .i64 q.t.kind, .int .i64 q.t.lab.s, .int .i64 q.t.lab.v, .int .i64 q.t.ve, .int .i64 q.t.num, .slice (some ⟨B136, 0, none⟩) q.t.slots.length q.t.slots.length, .slice (some ⟨B149, 0, none⟩) q.t.queue.length q.t.queue.length, .int .i64 q.t.to]) X5 rfl rfl (hS161.blk.rangeL 0 8 rfl) rfl ?_
 have k163 := (((k147.grown0 hg152).gn hS157.grw).gn hS161.grw)
 refine wpo_storen (vs := [.int .i64 q.t.kind, .int .i64 q.t.lab.s, .int .i64 q.t.lab.v, .int .i64 q.t.ve, .int .i64 q.t.num, .slice (some ⟨B136, 0, none⟩) q.t.slots.length q.t.slots.length, .slice (some ⟨B149, 0, none⟩) q.t.queue.length q.t.queue.length, .int .i64 q.t.to]) (cs' := #[.int .i64 q.t.kind, .int .i64 q.t.lab.s, .int .i64 q.t.lab.v, .int .i64 q.t.ve, .int .i64 q.t.num, .slice (some ⟨B136, 0, none⟩) q.t.slots.length q.t.slots.length, .slice (some ⟨B149, 0, none⟩) q.t.queue.length q.t.queue.length, .int .i64 q.t.to]) X5 rfl rfl rfl (by simp [Value.oneCell']) k163 (Nat.le_of_ble_eq_true rfl) rfl ?_
 intro w164 hS165
 have hb166 := low1 hb162 hS165.grw (by omega)
 refine wpo_nil ?_
 refine Xk ?_
 have k167 := ((((k148.grown0 hg152).gn hS157.grw).gn hS161.grw).gn hS165.grw)
 have k168 := (((k151.gn hS157.grw).gn hS161.grw).gn hS165.grw)
 refine ⟨.agg #[.int .i64 q.t.kind, .int .i64 q.t.lab.s, .int .i64 q.t.lab.v, .int .i64 q.t.ve, .int .i64 q.t.num, .slice (some ⟨B136, 0, none⟩) q.t.slots.length q.t.slots.length, .slice (some ⟨B149, 0, none⟩) q.t.queue.length q.t.queue.length, .int .i64 q.t.to], resC rfl (resCell_mk (vs := [.int .i64 q.t.kind, .int .i64 q.t.lab.s, .int .i64 q.t.lab.v, .int .i64 q.t.ve, .int .i64 q.t.num, .slice (some ⟨B136, 0, none⟩) q.t.slots.length q.t.slots.length, .slice (some ⟨B149, 0, none⟩) q.t.queue.length q.t.queue.length, .int .i64 q.t.to]) X5 rfl rfl (hS165.blk.rangeL 0 8 rfl)), ⟨q.t, some ⟨B136, 0, none⟩, q.t.slots.length, some ⟨B149, 0, none⟩, q.t.queue.length⟩, rfl, rfl, fun b hb => ⟨SlX.rows Y3 k167 (Qh (by omega)), SlX.rows Qb k168 (Qh (by omega)), (fun h => by cases h), (fun h => by cases h)⟩, hb166⟩
theorem Kd [Comp] (w : World) (ms : List MTh) (a : Option Addr) (c : Nat) (ht : TabAt w a ms) (hlen : TabLen ms) (hn : ms.length ≤ 1048576) : CallsR Try.prog 29 #[.slice a ms.length c] w (fun v w' => ∃ (B : Nat) (ys : List MTh), v = .slice (some ⟨B, 0, none⟩) ys.length ys.length ∧ tabT ys = tabT ms ∧ w.heap.size ≤ B ∧ Blk w' B 35 (ys.flatMap MTh.cells).toArray ∧ (∀ m ∈ ys, ThX (some B) w' m) ∧ w.grownBy w' none) := by
 refine Xl (n := 23) Try.func29 rfl Try.ntmps29 rfl ?_
 have hb0 := World.grownBy.refl w none
 refine Xa ?_
 refine wpo_assign (v := .slice none 0 0) rfl rfl ?_
 refine wpo_nil ?_
 refine Xa ?_
 refine wpo_move (v := .slice a ms.length c) rfl rfl ?_
 refine wpo_len (by kernel_rfl) rfl rfl ?_
 refine wpo_make (g := MTh.cells) (z := MTh.zero) (c := ms.length) Dm rfl Y6 (by omega) rfl rfl (by omega) (by omega) rfl ?_
 intro B101 w102 hN103
 have hlB101 := Xv hN103 hb0
 have hb104 := low0 hb0 hN103.grw
 refine wpo_assign (v := .slice (some ⟨B101, 0, none⟩) ms.length ms.length) rfl rfl ?_
 refine wpo_nil ?_
 refine Xh ?_
 refine Xa ?_
 refine wpo_assign (v := .int .i64 0) rfl rfl ?_
 refine wpo_nil ?_
 refine Xu ?_
 refine Yf (fun mm f' w' => ∃ (k : Nat) (ys : List MTh), mm = ms.length - k ∧ k ≤ ms.length ∧ ys.length = k ∧ tabT ys = (tabT ms).take k ∧ (∀ x ∈ ys, ThX (some B101) w' x) ∧ f' 4 = .int .i64 (k : Int) ∧ f' 0 = .slice a ms.length c ∧ f' 2 = .slice none 0 0 ∧ f' 3 = .slice (some ⟨B101, 0, none⟩) ms.length ms.length ∧ w.grownBy w' none ∧ Blk w' B101 35 ((padM ms.length ys).flatMap MTh.cells).toArray) (ms.length - 0) ⟨0, ([] : List MTh), rfl, (Nat.zero_le _), rfl, rfl, (fun x hx => by simp at hx), rfl, rfl, rfl, rfl, hb104, (by rw [Bb]; exact hN103.blk)⟩ ?_
 rintro mm f105 w106 ⟨k, ys, hm108, hk, hyk, hyt, hya, e109, e110, e111, e112, hb107, k113⟩
 refine Xh ?_
 refine Xa ?_
 refine wpo_move (v := .int .i64 (k : Int)) e109 rfl ?_
 refine wpo_move (v := .slice a ms.length c) e110 rfl ?_
 refine wpo_len (by kernel_rfl) rfl rfl ?_
 refine wpo_lss (q := decide ((k : Int) < (ms.length : Int))) rfl rfl rfl rfl ?_
 refine wpo_nil ?_
 refine Xp rfl (fun h114 => ?_) (fun h114 => ?_)
 ·
  have h115 := of_decide_eq_true h114
  refine Xm ?_
  refine Xo ?_
  refine Xh ?_
  refine Xu ?_
  refine Xs ?_
  refine wpo_move (v := .slice (some ⟨B101, 0, none⟩) ms.length ms.length) e112 rfl ?_
  refine wpo_move (v := .int .i64 (k : Int)) e109 rfl ?_
  refine wpo_move (v := .slice a ms.length c) e110 rfl ?_
  refine wpo_move (v := .int .i64 (k : Int)) e109 rfl ?_
  obtain ⟨b118, q119, o120, ha121, ho122, hr123⟩ := SlAt.at (TabAt.low ht hb107).1 (Yc (Xx (show k < ms.length by omega)))
  have hle124 := TabLen.at hlen (Xx (show k < ms.length by omega))
  refine Xz I3 rfl rfl ha121 ho122 (by omega) (by omega) rfl ?_
  refine wpo_loadn (vs := [.int .i64 ((mAt ms k).t.kind), .int .i64 ((mAt ms k).t.lab.s), .int .i64 ((mAt ms k).t.lab.v), .int .i64 ((mAt ms k).t.ve), .int .i64 ((mAt ms k).t.num), .slice ((mAt ms k).sa) ((mAt ms k).t.slots.length) ((mAt ms k).sc), .slice ((mAt ms k).qa) ((mAt ms k).t.queue.length) ((mAt ms k).qc), .int .i64 ((mAt ms k).t.to)]) Oi rfl rfl (Yq hr123 0 8 rfl) rfl ?_
  refine Xi (vs := [.agg #[.int .i64 ((mAt ms k).t.kind), .int .i64 ((mAt ms k).t.lab.s), .int .i64 ((mAt ms k).t.lab.v), .int .i64 ((mAt ms k).t.ve), .int .i64 ((mAt ms k).t.num), .slice ((mAt ms k).sa) ((mAt ms k).t.slots.length) ((mAt ms k).sc), .slice ((mAt ms k).qa) ((mAt ms k).t.queue.length) ((mAt ms k).qc), .int .i64 ((mAt ms k).t.to)]]) Xax (Xc rfl Xg) rfl (Cg _ (mAt ms k) (TabAt.th (TabAt.low ht hb107) (Xx (show k < ms.length by omega))) (by omega)) ?_
  rintro _ w129 ⟨m125, rfl, he126, hX127, hg128⟩
  have hb130 := low0 hb107 hg128
  refine wpo_indexAddr (o' := k * 8) Jf rfl rfl (by omega) (by omega) (by omega) rfl ?_
  have k131 := (k113.grown0 hg128)
  refine wpo_storen (vs := [.int .i64 m125.t.kind, .int .i64 m125.t.lab.s, .int .i64 m125.t.lab.v, .int .i64 m125.t.ve, .int .i64 m125.t.num, .slice m125.sa m125.t.slots.length m125.sc, .slice m125.qa m125.t.queue.length m125.qc, .int .i64 m125.t.to]) (cs' := (((padM ms.length ys).set k m125).flatMap MTh.cells).toArray) X5 rfl rfl rfl (by simp [Value.oneCell']) k131 (Hd Y6 (by rw [Ri (by omega)]; omega)) (Gi Y6 (by rw [Ri (by omega)]; omega) m125) ?_
  intro w132 hS133
  have hb134 := low1 hb130 hS133.grw (by omega)
  refine wpo_nil ?_
  refine Je ?_
  refine Xo ?_
  refine Xs ?_
  refine wpo_move (v := .int .i64 (k : Int)) e109 rfl ?_
  refine wpo_add (c := (k : Int) + 1) rfl rfl (by omega) (by omega) (by omega) rfl ?_
  refine wpo_assign (v := .int .i64 ((k : Int) + 1)) rfl rfl ?_
  refine wpo_nil ?_
  refine Xo ?_
  exact ⟨ms.length - (k + 1), by omega, (k + 1), (ys ++ [m125]), rfl, (by omega), (by rw [List.length_append, hyk]; rfl), (L4 hyt (Xx (show k < ms.length by omega)) he126), (fun x hx => by rcases List.mem_append.1 hx with h | h; exact (((hya x h).low hg128).grown hS133.grw); (have e := List.mem_singleton.1 h; subst e; exact ((hX127 B101 (k113).lt).grown hS133.grw))), rfl, e110, e111, e112, hb134, (by have kk := hS133.blk; rw [Dq hyk (by omega)] at kk; exact kk)⟩
 ·
  have h135 := of_decide_eq_false h114
  refine Yo ?_
  refine Yz ?_
  refine Yz ?_
  refine Jn ?_
  refine Xo ?_
  refine Xa ?_
  refine wpo_move (v := .slice (some ⟨B101, 0, none⟩) ms.length ms.length) e112 rfl ?_
  refine wpo_assign (v := .slice (some ⟨B101, 0, none⟩) ms.length ms.length) rfl rfl ?_
  refine wpo_nil ?_
  refine Xk ?_
  have hyl : ys.length = ms.length := by omega
  have kk := k113
  rw [Dp hyl] at kk
  refine ⟨.slice (some ⟨B101, 0, none⟩) ms.length ms.length, res1 rfl rfl, B101, ys, by rw [hyl], R5 hyt (by omega), hlB101, kk, hya, hb107⟩
theorem Hq [Comp] (w : World) (ms ps : List MTh) (a b : Option Addr) (c e : Nat) (ht : TabAt w a ms) (hp : TabAt w b ps) (hlen : TabLen ms) (hlep : TabLen ps) (hn : ms.length ≤ 1048576) (hm : ps.length ≤ 1048576) : CallsR Try.prog 31 #[.slice a ms.length c, .slice b ps.length e] w (fun v w' => v = .bool (decide (tabT ms = tabT ps)) ∧ w.grownBy w' none) := by
 refine Xl (n := 27) Try.func31 rfl Try.ntmps31 rfl ?_
 have hb0 := World.grownBy.refl w none
 refine Xa ?_
 refine wpo_assign (v := .bool false) rfl rfl ?_
 refine wpo_nil ?_
 refine Xh ?_
 refine Xa ?_
 refine wpo_move (v := .slice a ms.length c) rfl rfl ?_
 refine wpo_len (by kernel_rfl) rfl rfl ?_
 refine wpo_move (v := .slice b ps.length e) rfl rfl ?_
 refine wpo_len (by kernel_rfl) rfl rfl ?_
 refine wpo_neq (q := !(decide ((ms.length : Int) = (ps.length : Int)))) rfl rfl rfl rfl ?_
 refine wpo_nil ?_
 refine Xp rfl (fun h101 => ?_) (fun h101 => ?_)
 ·
  have h102 := Qi h101
  have h103 := of_decide_eq_false h102
  refine Xa ?_
  refine wpo_assign (v := .bool false) rfl rfl ?_
  refine wpo_nil ?_
  refine Xk ?_
  refine Xy ?_
  refine ⟨.bool false, res1 rfl rfl, ?_, hb0⟩
  exact congrArg Value.bool (decide_eq_false (fun h => by have := Q5 h; omega)).symm
 ·
  have h104 := Y5 h101
  have h105 := of_decide_eq_true h104
  refine Xm ?_
  refine Xo ?_
  refine Xh ?_
  refine Xa ?_
  refine wpo_assign (v := .int .i64 0) rfl rfl ?_
  refine wpo_nil ?_
  refine Xu ?_
  refine Yf (fun mm f' w' => ∃ (k : Nat), mm = ms.length - k ∧ k ≤ ms.length ∧ (tabT ms).take k = (tabT ps).take k ∧ f' 5 = .int .i64 (k : Int) ∧ f' 0 = .slice a ms.length c ∧ f' 1 = .slice b ps.length e ∧ w.grownBy w' none) (ms.length - 0) ⟨0, rfl, (Nat.zero_le _), rfl, rfl, rfl, rfl, hb0⟩ ?_
  rintro mm f106 w107 ⟨k, hm109, hk, ha, e110, e111, e112, hb108⟩
  refine Xh ?_
  refine Xa ?_
  refine wpo_move (v := .int .i64 (k : Int)) e110 rfl ?_
  refine wpo_move (v := .slice a ms.length c) e111 rfl ?_
  refine wpo_len (by kernel_rfl) rfl rfl ?_
  refine wpo_lss (q := decide ((k : Int) < (ms.length : Int))) rfl rfl rfl rfl ?_
  refine wpo_nil ?_
  refine Xp rfl (fun h113 => ?_) (fun h113 => ?_)
  ·
   have h114 := of_decide_eq_true h113
   refine Xm ?_
   refine Xo ?_
   refine Xh ?_
   refine Xu ?_
   refine Xh ?_
   obtain ⟨b159, q160, o161, ha162, ho163, hr164⟩ := SlAt.at (TabAt.low ht hb108).1 (Yc (Xx (show k < ms.length by omega)))
   have hle165 := TabLen.at hlen (Xx (show k < ms.length by omega))
   obtain ⟨b168, q169, o170, ha171, ho172, hr173⟩ := SlAt.at (TabAt.low hp hb108).1 (Yc (Xx (show k < ps.length by omega)))
   have hle174 := TabLen.at hlep (Xx (show k < ps.length by omega))
   refine Yx (m := 8) (vals := [(17, .slice a ms.length c), (18, .int .i64 (k : Int)), (19, .pointer (some ⟨b159, o161, none⟩)), (20, .agg #[.int .i64 ((mAt ms k).t.kind), .int .i64 ((mAt ms k).t.lab.s), .int .i64 ((mAt ms k).t.lab.v), .int .i64 ((mAt ms k).t.ve), .int .i64 ((mAt ms k).t.num), .slice ((mAt ms k).sa) ((mAt ms k).t.slots.length) ((mAt ms k).sc), .slice ((mAt ms k).qa) ((mAt ms k).t.queue.length) ((mAt ms k).qc), .int .i64 ((mAt ms k).t.to)]), (21, .slice b ps.length e), (22, .int .i64 (k : Int)), (23, .pointer (some ⟨b168, o170, none⟩)), (24, .agg #[.int .i64 ((mAt ps k).t.kind), .int .i64 ((mAt ps k).t.lab.s), .int .i64 ((mAt ps k).t.lab.v), .int .i64 ((mAt ps k).t.ve), .int .i64 ((mAt ps k).t.num), .slice ((mAt ps k).sa) ((mAt ps k).t.slots.length) ((mAt ps k).sc), .slice ((mAt ps k).qa) ((mAt ps k).t.queue.length) ((mAt ps k).qc), .int .i64 ((mAt ps k).t.to)])]) (fun w' => w107.grownBy w' none) Qd (by kernel_rfl) (X4 _) ?_ ?_
   ·
    refine Xd rfl (fun w178 hi179 => ?_) ?_
    ·
     have hb180 := low0 hb108 hi179
     refine wpo_move (v := .slice a ms.length c) e111 rfl ?_
     exact wpo_nil ⟨rfl, hi179⟩
    refine Xd rfl (fun w181 hi182 => ?_) ?_
    ·
     have hb183 := low0 hb108 hi182
     refine wpo_move (v := .int .i64 (k : Int)) e110 rfl ?_
     exact wpo_nil ⟨rfl, hi182⟩
    refine Xd rfl (fun w184 hi185 => ?_) ?_
    ·
     have hb186 := low0 hb108 hi185
     refine Xz Jf rfl rfl ha162 ho163 (by omega) (by omega) rfl ?_
     exact wpo_nil ⟨rfl, hi185⟩
    refine Xd rfl (fun w187 hi188 => ?_) ?_
    ·
     have hb189 := low0 hb108 hi188
     refine wpo_loadn (vs := [.int .i64 ((mAt ms k).t.kind), .int .i64 ((mAt ms k).t.lab.s), .int .i64 ((mAt ms k).t.lab.v), .int .i64 ((mAt ms k).t.ve), .int .i64 ((mAt ms k).t.num), .slice ((mAt ms k).sa) ((mAt ms k).t.slots.length) ((mAt ms k).sc), .slice ((mAt ms k).qa) ((mAt ms k).t.queue.length) ((mAt ms k).qc), .int .i64 ((mAt ms k).t.to)]) X5 rfl rfl (Yq (Yd hr164 hi188) 0 8 rfl) rfl ?_
     exact wpo_nil ⟨rfl, hi188⟩
    refine Xd rfl (fun w190 hi191 => ?_) ?_
    ·
     have hb192 := low0 hb108 hi191
     refine wpo_move (v := .slice b ps.length e) e112 rfl ?_
     exact wpo_nil ⟨rfl, hi191⟩
    refine Xd rfl (fun w193 hi194 => ?_) ?_
    ·
     have hb195 := low0 hb108 hi194
     refine wpo_move (v := .int .i64 (k : Int)) e110 rfl ?_
     exact wpo_nil ⟨rfl, hi194⟩
    refine Xd rfl (fun w196 hi197 => ?_) ?_
    ·
     have hb198 := low0 hb108 hi197
     refine Xz Jf rfl rfl ha171 ho172 (by omega) (by omega) rfl ?_
     exact wpo_nil ⟨rfl, hi197⟩
    refine Xd rfl (fun w199 hi200 => ?_) ?_
    ·
     have hb201 := low0 hb108 hi200
     refine wpo_loadn (vs := [.int .i64 ((mAt ps k).t.kind), .int .i64 ((mAt ps k).t.lab.s), .int .i64 ((mAt ps k).t.lab.v), .int .i64 ((mAt ps k).t.ve), .int .i64 ((mAt ps k).t.num), .slice ((mAt ps k).sa) ((mAt ps k).t.slots.length) ((mAt ps k).sc), .slice ((mAt ps k).qa) ((mAt ps k).t.queue.length) ((mAt ps k).qc), .int .i64 ((mAt ps k).t.to)]) X5 rfl rfl (Yq (Yd hr173 hi200) 0 8 rfl) rfl ?_
     exact wpo_nil ⟨rfl, hi200⟩
    exact Qc
   ·
    intro w202 hi203
    have hb204 := low0 hb108 hi203
    refine Xi (vs := [.agg #[.int .i64 ((mAt ms k).t.kind), .int .i64 ((mAt ms k).t.lab.s), .int .i64 ((mAt ms k).t.lab.v), .int .i64 ((mAt ms k).t.ve), .int .i64 ((mAt ms k).t.num), .slice ((mAt ms k).sa) ((mAt ms k).t.slots.length) ((mAt ms k).sc), .slice ((mAt ms k).qa) ((mAt ms k).t.queue.length) ((mAt ms k).qc), .int .i64 ((mAt ms k).t.to)], .agg #[.int .i64 ((mAt ps k).t.kind), .int .i64 ((mAt ps k).t.lab.s), .int .i64 ((mAt ps k).t.lab.v), .int .i64 ((mAt ps k).t.ve), .int .i64 ((mAt ps k).t.num), .slice ((mAt ps k).sa) ((mAt ps k).t.slots.length) ((mAt ps k).sc), .slice ((mAt ps k).qa) ((mAt ps k).t.queue.length) ((mAt ps k).qc), .int .i64 ((mAt ps k).t.to)]]) Xay (Xc rfl (Xc rfl Xg)) rfl (M1 (mAt ms k) (mAt ps k) _ (TabAt.th (TabAt.low ht hb204) (Xx (show k < ms.length by omega))) (TabAt.th (TabAt.low hp hb204) (Xx (show k < ps.length by omega))) ⟨by first | omega | exact Nat.le_of_ble_eq_true rfl | (simp only [List.length_nil, List.length_cons, List.length_append, List.length_replicate]; omega), by first | omega | exact Nat.le_of_ble_eq_true rfl | (simp only [List.length_nil, List.length_cons, List.length_append, List.length_replicate]; omega)⟩ ⟨by first | omega | exact Nat.le_of_ble_eq_true rfl | (simp only [List.length_nil, List.length_cons, List.length_append, List.length_replicate]; omega), by first | omega | exact Nat.le_of_ble_eq_true rfl | (simp only [List.length_nil, List.length_cons, List.length_append, List.length_replicate]; omega)⟩) ?_
    rintro _ w205 ⟨rfl, hg206⟩
    have hb207 := low0 hb204 hg206
    refine wpo_not (b' := !(decide ((mAt ms k).t = (mAt ps k).t))) rfl rfl rfl ?_
    refine wpo_nil ?_
    refine Xo ?_
    refine Xp rfl (fun h208 => ?_) (fun h208 => ?_)
    ·
     have h209 := Qi h208
     have h210 := of_decide_eq_false h209
     refine Xa ?_
     refine wpo_assign (v := .bool false) rfl rfl ?_
     refine wpo_nil ?_
     refine Xk ?_
     refine Y4 ?_
     refine Xy ?_
     refine Xy ?_
     refine Y4 ?_
     refine Xy ?_
     refine ⟨.bool false, res1 rfl rfl, ?_, hb207⟩
     exact congrArg Value.bool (decide_eq_false (V7 (K5 (by omega)) (K5 (by omega)) (of_decide_eq_false h209))).symm
    ·
     have h211 := Y5 h208
     have h212 := of_decide_eq_true h211
     refine Xm ?_
     refine Je ?_
     refine Xo ?_
     refine Xs ?_
     refine wpo_move (v := .int .i64 (k : Int)) e110 rfl ?_
     refine wpo_add (c := (k : Int) + 1) rfl rfl (by omega) (by omega) (by omega) rfl ?_
     refine wpo_assign (v := .int .i64 ((k : Int) + 1)) rfl rfl ?_
     refine wpo_nil ?_
     refine Xo ?_
     exact ⟨ms.length - (k + 1), by omega, (k + 1), rfl, (by omega), (Jr ha (K5 (by omega)) (K5 (by omega)) (of_decide_eq_true h211)), rfl, e111, e112, hb207⟩
  ·
   have h213 := of_decide_eq_false h113
   refine Yo ?_
   refine Yz ?_
   refine Yz ?_
   refine Jn ?_
   refine Xo ?_
   refine Xa ?_
   refine wpo_assign (v := .bool true) rfl rfl ?_
   refine wpo_nil ?_
   refine Xk ?_
   refine ⟨.bool true, res1 rfl rfl, ?_, hb108⟩
   exact congrArg Value.bool (decide_eq_true (Kv ha (by rw [X7]; omega) (by rw [X7]; omega))).symm
theorem Vb [Comp] (k : Int) (w : World) (a : Option Addr) (n c : Nat) : CallsR Try.prog 56 #[.slice a n c, .int .i64 k] w (fun v w' => v = .bool (inR k 1 (n : Int)) ∧ w.grownBy w' none) := by
 refine Xl (n := 9) Try.func56 rfl Try.ntmps56 rfl ?_
 have hb0 := World.grownBy.refl w none
 refine Xa ?_
 refine wpo_assign (v := .bool false) rfl rfl ?_
 refine wpo_nil ?_
 refine Xa ?_
 refine wpo_move (v := .int .i64 k) rfl rfl ?_
 refine wpo_move (v := .slice a n c) rfl rfl ?_
 refine wpo_len (by kernel_rfl) rfl rfl ?_
 refine Xi (vs := [.int .i64 k, .int .i64 1, .int .i64 (n : Int)]) V6 (Xc rfl (Xc rfl (Xc rfl Xg))) rfl (Jc k 1 (n : Int) _) ?_
 rintro _ w101 ⟨rfl, hg102⟩
 have hb103 := low0 hb0 hg102
 refine wpo_assign (v := .bool (inR k 1 (n : Int))) rfl rfl ?_
 refine wpo_nil ?_
 refine Xk ?_
 refine ⟨.bool (inR k 1 (n : Int)), res1 rfl rfl, ?_, hb103⟩
 rfl
theorem Dg [Comp] (k kd : Int) (hk : -9223372036854775807 ≤ k) (w : World) (ms : List MTh) (a : Option Addr) (c : Nat) (ht : TabAt w a ms) (hlen : TabLen ms) (hn : ms.length ≤ 1048576) : CallsR Try.prog 71 #[.slice a ms.length c, .int .i64 k, .int .i64 kd] w (fun v w' => v = .bool (kindAt (tabT ms) k kd) ∧ w.grownBy w' none) := by
 refine Xl (n := 20) Try.func71 rfl Try.ntmps71 rfl ?_
 have hb0 := World.grownBy.refl w none
 refine Xa ?_
 refine wpo_assign (v := .bool false) rfl rfl ?_
 refine wpo_nil ?_
 refine Xt (fun f' w' => (f' 6 = .bool (inR k 1 (ms.length : Int) && (decide ((mAt ms ((k - 1).toNat)).t.kind = kd)))) ∧ w.grownBy w' none) ?_ ?_
 ·
  refine wpo_move (v := .slice a ms.length c) rfl rfl ?_
  refine wpo_move (v := .int .i64 k) rfl rfl ?_
  refine Xi (vs := [.slice a ms.length c, .int .i64 k]) Dd (Xc rfl (Xc rfl Xg)) rfl (Vb k _ _ _ _) ?_
  rintro _ w116 ⟨rfl, hg117⟩
  have hb118 := low0 hb0 hg117
  refine wpo_move (v := .bool (inR k 1 (ms.length : Int))) rfl rfl ?_
  rcases X2 (inR k 1 (ms.length : Int)) with h119 | h119
  ·
   have hr120 := Q9.1 h119
   refine Xb rfl rfl rfl h119 ?_
   refine wpo_move (v := .slice a ms.length c) rfl rfl ?_
   refine Xb rfl rfl rfl h119 ?_
   refine wpo_move (v := .int .i64 k) rfl rfl ?_
   refine Xb rfl rfl rfl h119 ?_
   refine wpo_sub (c := k - 1) rfl rfl (by omega) (by omega) (by omega) rfl ?_
   refine Xb rfl rfl rfl h119 ?_
   obtain ⟨b123, q124, o125, ha126, ho127, hr128⟩ := SlAt.at (TabAt.low ht hb118).1 (Yc (Xx (show (k - 1).toNat < ms.length by omega)))
   have hle129 := TabLen.at hlen (Xx (show (k - 1).toNat < ms.length by omega))
   refine Xz Jf rfl rfl ha126 ho127 (by omega) (by omega) rfl ?_
   refine Xb rfl rfl rfl h119 ?_
   refine wpo_fieldAddr (o' := o125) Yg rfl rfl rfl ?_
   refine Xb rfl rfl rfl h119 ?_
   refine wpo_load1 (v := .int .i64 ((mAt ms ((k - 1).toNat)).t.kind)) X1 rfl (hr128 0 _ rfl) rfl ?_
   refine Xb rfl rfl rfl h119 ?_
   refine wpo_move (v := .int .i64 kd) rfl rfl ?_
   refine Xb rfl rfl rfl h119 ?_
   refine wpo_eql (q := decide ((mAt ms ((k - 1).toNat)).t.kind = kd)) rfl rfl rfl rfl ?_
   refine wpo_pickt (v := .bool (decide ((mAt ms ((k - 1).toNat)).t.kind = kd))) rfl h119 rfl rfl ?_
   refine wpo_assign (v := .bool (decide ((mAt ms ((k - 1).toNat)).t.kind = kd))) rfl rfl ?_
   exact wpo_nil ⟨(congrArg Value.bool (by first | (simp only [h119, b0, b1, b2, b3, b4, b5, b6, b7, b8, b9]; done) | simp [h119])), hg117⟩
  ·
   iterate 8 refine Xe rfl rfl rfl h119 rfl ?_
   refine wpo_pickf (v := .bool false) rfl h119 rfl rfl ?_
   refine wpo_assign (v := .bool false) rfl rfl ?_
   exact wpo_nil ⟨(congrArg Value.bool (by first | (simp only [h119, b0, b1, b2, b3, b4, b5, b6, b7, b8, b9]; done) | simp [h119])), hg117⟩
 ·
  rintro f130 w131 ⟨e132, hg133⟩
  have hb134 := low0 hb0 hg133
  refine Xk ?_
  refine ⟨.bool (inR k 1 (ms.length : Int) && (decide ((mAt ms ((k - 1).toNat)).t.kind = kd))), res1 rfl e132, ?_, hb134⟩
  exact congrArg Value.bool Dh
theorem Qt [Comp] (w : World) (ms : List MTh) (a : Option Addr) (c : Nat) (ht : TabAt w a ms) (hlen : TabLen ms) (hn : ms.length ≤ 1048576) : CallsR Try.prog 15 #[.slice a ms.length c] w (fun v w' => v = .bool (tableOk (tabT ms)) ∧ w.grownBy w' none) := by
 refine Xl (n := 92) Try.func15 rfl Try.ntmps15 rfl ?_
 have hb0 := World.grownBy.refl w none
 refine Xa ?_
 refine wpo_assign (v := .bool false) rfl rfl ?_
 refine wpo_nil ?_
 refine Xh ?_
 refine Xa ?_
 refine wpo_assign (v := .int .i64 0) rfl rfl ?_
 refine wpo_nil ?_
 refine Xu ?_
 refine Yf (fun mm f' w' => ∃ (k : Nat), mm = ms.length - k ∧ k ≤ ms.length ∧ (((tabT ms).take k).all (rowOk (tabT ms))) = true ∧ f' 3 = .int .i64 (k : Int) ∧ f' 0 = .slice a ms.length c ∧ w.grownBy w' none) (ms.length - 0) ⟨0, rfl, (Nat.zero_le _), rfl, rfl, rfl, hb0⟩ ?_
 rintro mm f101 w102 ⟨k, hm104, hk, hall, e105, e106, hb103⟩
 refine Xh ?_
 refine Xa ?_
 refine wpo_move (v := .int .i64 (k : Int)) e105 rfl ?_
 refine wpo_move (v := .slice a ms.length c) e106 rfl ?_
 refine wpo_len (by kernel_rfl) rfl rfl ?_
 refine wpo_lss (q := decide ((k : Int) < (ms.length : Int))) rfl rfl rfl rfl ?_
 refine wpo_nil ?_
 refine Xp rfl (fun h107 => ?_) (fun h107 => ?_)
 ·
  have h108 := of_decide_eq_true h107
  refine Xm ?_
  refine Xo ?_
  refine Xh ?_
  refine Xu ?_
  refine Xh ?_
  refine Xt (fun f' w' => (f' 0 = .slice a ms.length c ∧ f' 3 = .int .i64 (k : Int) ∧ f' 48 = .bool ((!thingOk (mAt ms k).t) || ((decide ((mAt ms k).t.kind = 5)) && ((decide ((ms.length : Int) < (mAt ms k).t.to)) || (!(decide ((mAt ms ((((mAt ms k).t.to) - 1).toNat)).t.kind = 1))))))) ∧ w102.grownBy w' none) ?_ ?_
  ·
   refine wpo_move (v := .slice a ms.length c) e106 rfl ?_
   refine wpo_move (v := .int .i64 (k : Int)) e105 rfl ?_
   obtain ⟨b144, q145, o146, ha147, ho148, hr149⟩ := SlAt.at (TabAt.low ht hb103).1 (Yc (Xx (show k < ms.length by omega)))
   have hle150 := TabLen.at hlen (Xx (show k < ms.length by omega))
   refine Xz Jf rfl rfl ha147 ho148 (by omega) (by omega) rfl ?_
   refine wpo_loadn (vs := [.int .i64 ((mAt ms k).t.kind), .int .i64 ((mAt ms k).t.lab.s), .int .i64 ((mAt ms k).t.lab.v), .int .i64 ((mAt ms k).t.ve), .int .i64 ((mAt ms k).t.num), .slice ((mAt ms k).sa) ((mAt ms k).t.slots.length) ((mAt ms k).sc), .slice ((mAt ms k).qa) ((mAt ms k).t.queue.length) ((mAt ms k).qc), .int .i64 ((mAt ms k).t.to)]) X5 rfl rfl (Yq hr149 0 8 rfl) rfl ?_
   refine Xi (vs := [.agg #[.int .i64 ((mAt ms k).t.kind), .int .i64 ((mAt ms k).t.lab.s), .int .i64 ((mAt ms k).t.lab.v), .int .i64 ((mAt ms k).t.ve), .int .i64 ((mAt ms k).t.num), .slice ((mAt ms k).sa) ((mAt ms k).t.slots.length) ((mAt ms k).sc), .slice ((mAt ms k).qa) ((mAt ms k).t.queue.length) ((mAt ms k).qc), .int .i64 ((mAt ms k).t.to)]]) P4 (Xc rfl Xg) rfl (K2 (mAt ms k) _ (TabAt.th (TabAt.low ht hb103) (Xx (show k < ms.length by omega))).1 (TabAt.th (TabAt.low ht hb103) (Xx (show k < ms.length by omega))).2.1 (by first | omega | exact Nat.le_of_ble_eq_true rfl | (simp only [List.length_nil, List.length_cons, List.length_append, List.length_replicate]; omega)) (by first | omega | exact Nat.le_of_ble_eq_true rfl | (simp only [List.length_nil, List.length_cons, List.length_append, List.length_replicate]; omega))) ?_
   rintro _ w151 ⟨rfl, hg152⟩
   have hb153 := low0 hb103 hg152
   refine wpo_not (b' := !thingOk (mAt ms k).t) rfl rfl rfl ?_
   refine wpo_move (v := .bool (!thingOk (mAt ms k).t)) rfl rfl ?_
   rcases X2 (!thingOk (mAt ms k).t) with h154 | h154
   ·
    have h155 := Qi h154
    iterate 7 refine Xe rfl rfl rfl h154 rfl ?_
    iterate 21 refine X3 rfl rfl rfl rfl ?_
    refine Xe rfl rfl rfl h154 rfl ?_
    refine wpo_pickt (v := .bool true) rfl h154 rfl rfl ?_
    exact wpo_nil ⟨⟨e106, e105, (congrArg Value.bool (by first | (simp only [h107, h154, h155, b0, b1, b2, b3, b4, b5, b6, b7, b8, b9]; done) | simp [h107, h154, h155]))⟩, hg152⟩
   ·
    have h156 := Y5 h154
    refine Xb rfl rfl rfl h154 ?_
    refine wpo_move (v := .slice a ms.length c) e106 rfl ?_
    refine Xb rfl rfl rfl h154 ?_
    refine wpo_move (v := .int .i64 (k : Int)) e105 rfl ?_
    refine Xb rfl rfl rfl h154 ?_
    refine Xz Jf rfl rfl ha147 ho148 (by omega) (by omega) rfl ?_
    refine Xb rfl rfl rfl h154 ?_
    refine wpo_fieldAddr (o' := o146) Yg rfl rfl rfl ?_
    refine Xb rfl rfl rfl h154 ?_
    refine wpo_load1 (v := .int .i64 ((mAt ms k).t.kind)) X1 rfl ((Yd hr149 hg152) 0 _ rfl) rfl ?_
    refine Xb rfl rfl rfl h154 ?_
    refine wpo_eql (q := decide ((mAt ms k).t.kind = 5)) rfl rfl rfl rfl ?_
    refine Xb rfl rfl rfl h154 ?_
    refine wpo_move (v := .bool (decide ((mAt ms k).t.kind = 5))) rfl rfl ?_
    rcases X2 (decide ((mAt ms k).t.kind = 5)) with h157 | h157
    ·
     have hgt158 := Hg h156 h157
     have h159 := of_decide_eq_true h157
     refine Xb rfl rfl rfl h157 ?_
     refine wpo_move (v := .slice a ms.length c) e106 rfl ?_
     refine Xb rfl rfl rfl h157 ?_
     refine wpo_move (v := .int .i64 (k : Int)) e105 rfl ?_
     refine Xb rfl rfl rfl h157 ?_
     refine Xz Jf rfl rfl ha147 ho148 (by omega) (by omega) rfl ?_
     refine Xb rfl rfl rfl h157 ?_
     refine wpo_fieldAddr (o' := o146 + 7) Q1 rfl rfl rfl ?_
     refine Xb rfl rfl rfl h157 ?_
     refine wpo_load1 (v := .int .i64 ((mAt ms k).t.to)) X1 rfl ((Yd hr149 hg152) 7 _ rfl) rfl ?_
     refine Xb rfl rfl rfl h157 ?_
     refine wpo_move (v := .slice a ms.length c) e106 rfl ?_
     refine Xb rfl rfl rfl h157 ?_
     refine wpo_len (by kernel_rfl) rfl rfl ?_
     refine Xb rfl rfl rfl h157 ?_
     refine wpo_gtr (q := decide ((ms.length : Int) < (mAt ms k).t.to)) rfl rfl rfl rfl ?_
     refine Xb rfl rfl rfl h157 ?_
     refine wpo_move (v := .bool (decide ((ms.length : Int) < (mAt ms k).t.to))) rfl rfl ?_
     rcases X2 (decide ((ms.length : Int) < (mAt ms k).t.to)) with h160 | h160
     ·
      have h161 := of_decide_eq_true h160
      iterate 11 refine Xe rfl rfl rfl h160 rfl ?_
      refine Xb rfl rfl rfl h157 ?_
      refine wpo_pickt (v := .bool true) rfl h160 rfl rfl ?_
      refine Xb rfl rfl rfl h154 ?_
      refine wpo_pickt (v := .bool true) rfl h157 rfl rfl ?_
      refine wpo_pickf (v := .bool true) rfl h154 rfl rfl ?_
      exact wpo_nil ⟨⟨e106, e105, (congrArg Value.bool (by first | (simp only [h107, h154, h156, h157, h160, b0, b1, b2, b3, b4, b5, b6, b7, b8, b9]; done) | simp [h107, h154, h156, h157, h160]))⟩, hg152⟩
     ·
      have h162 := of_decide_eq_false h160
      refine Xb rfl rfl rfl h160 ?_
      refine wpo_move (v := .slice a ms.length c) e106 rfl ?_
      refine Xb rfl rfl rfl h160 ?_
      refine wpo_move (v := .slice a ms.length c) e106 rfl ?_
      refine Xb rfl rfl rfl h160 ?_
      refine wpo_move (v := .int .i64 (k : Int)) e105 rfl ?_
      refine Xb rfl rfl rfl h160 ?_
      refine Xz Jf rfl rfl ha147 ho148 (by omega) (by omega) rfl ?_
      refine Xb rfl rfl rfl h160 ?_
      refine wpo_fieldAddr (o' := o146 + 7) Q1 rfl rfl rfl ?_
      refine Xb rfl rfl rfl h160 ?_
      refine wpo_load1 (v := .int .i64 ((mAt ms k).t.to)) X1 rfl ((Yd hr149 hg152) 7 _ rfl) rfl ?_
      refine Xb rfl rfl rfl h160 ?_
      refine wpo_sub (c := ((mAt ms k).t.to) - 1) rfl rfl (by omega) (by omega) (by omega) rfl ?_
      refine Xb rfl rfl rfl h160 ?_
      obtain ⟨b165, q166, o167, ha168, ho169, hr170⟩ := SlAt.at (TabAt.low ht hb153).1 (Yc (Xx (show (((mAt ms k).t.to) - 1).toNat < ms.length by omega)))
      have hle171 := TabLen.at hlen (Xx (show (((mAt ms k).t.to) - 1).toNat < ms.length by omega))
      refine Xz Jf rfl rfl ha168 ho169 (by omega) (by omega) rfl ?_
      refine Xb rfl rfl rfl h160 ?_
      refine wpo_fieldAddr (o' := o167) Yg rfl rfl rfl ?_
      refine Xb rfl rfl rfl h160 ?_
      refine wpo_load1 (v := .int .i64 ((mAt ms ((((mAt ms k).t.to) - 1).toNat)).t.kind)) X1 rfl (hr170 0 _ rfl) rfl ?_
      refine Xb rfl rfl rfl h160 ?_
      refine wpo_neq (q := !(decide ((mAt ms ((((mAt ms k).t.to) - 1).toNat)).t.kind = 1))) rfl rfl rfl rfl ?_
      refine Xb rfl rfl rfl h157 ?_
      refine wpo_pickf (v := .bool (!(decide ((mAt ms ((((mAt ms k).t.to) - 1).toNat)).t.kind = 1)))) rfl h160 rfl rfl ?_
      refine Xb rfl rfl rfl h154 ?_
      refine wpo_pickt (v := .bool (!(decide ((mAt ms ((((mAt ms k).t.to) - 1).toNat)).t.kind = 1)))) rfl h157 rfl rfl ?_
      refine wpo_pickf (v := .bool (!(decide ((mAt ms ((((mAt ms k).t.to) - 1).toNat)).t.kind = 1)))) rfl h154 rfl rfl ?_
      exact wpo_nil ⟨⟨e106, e105, (congrArg Value.bool (by first | (simp only [h107, h154, h156, h157, h160, b0, b1, b2, b3, b4, b5, b6, b7, b8, b9]; done) | simp [h107, h154, h156, h157, h160]))⟩, hg152⟩
    ·
     have h172 := of_decide_eq_false h157
     iterate 9 refine Xe rfl rfl rfl h157 rfl ?_
     iterate 11 refine X3 rfl rfl rfl rfl ?_
     refine Xe rfl rfl rfl h157 rfl ?_
     refine Xb rfl rfl rfl h154 ?_
     refine wpo_pickf (v := .bool false) rfl h157 rfl rfl ?_
     refine wpo_pickf (v := .bool false) rfl h154 rfl rfl ?_
     exact wpo_nil ⟨⟨e106, e105, (congrArg Value.bool (by first | (simp only [h107, h154, h156, h157, b0, b1, b2, b3, b4, b5, b6, b7, b8, b9]; done) | simp [h107, h154, h156, h157]))⟩, hg152⟩
  ·
   rintro f173 w174 ⟨⟨e175, e176, e177⟩, hg178⟩
   have hb179 := low0 hb103 hg178
   refine Xp e177 (fun h180 => ?_) (fun h180 => ?_)
   ·
    refine Xa ?_
    refine wpo_assign (v := .bool false) rfl rfl ?_
    refine wpo_nil ?_
    refine Xk ?_
    refine Xy ?_
    refine Y4 ?_
    refine Xy ?_
    refine Xy ?_
    refine Y4 ?_
    refine Xy ?_
    refine ⟨.bool false, res1 rfl rfl, ?_, hb179⟩
    exact congrArg Value.bool (Ed (by omega) ((Vg rfl).1 h180))
   ·
    have h181 := Vn h180
    have h182 := Y5 h181
    have h183 := Vo h180
    refine Xm ?_
    refine Xo ?_
    refine Xa ?_
    refine wpo_assign (v := .int .i64 0) rfl rfl ?_
    refine wpo_nil ?_
    refine Xu ?_
    refine Yf (fun mm f' w' => ∃ (j : Nat), mm = (mAt ms k).t.slots.length - j ∧ j ≤ (mAt ms k).t.slots.length ∧ (((mAt ms k).t.slots.take j).all (rightTo (tabT ms))) = true ∧ f' 4 = .int .i64 (j : Int) ∧ f' 0 = .slice a ms.length c ∧ f' 3 = .int .i64 (k : Int) ∧ w.grownBy w' none) ((mAt ms k).t.slots.length - 0) ⟨0, rfl, (Nat.zero_le _), rfl, rfl, e175, e176, hb179⟩ ?_
    rintro mm f184 w185 ⟨j, hm187, hj, hrs, e188, e189, e190, hb186⟩
    have hR0 : ∀ j, j < (mAt ms k).t.slots.length → 0 ≤ (rAt (mAt ms k).t.slots j).th ∧ (rAt (mAt ms k).t.slots j).th ≤ 8 := fun j hj => Ld ((Vg rfl).2 h180).1 (K8 hj)
    refine Xh ?_
    refine Xa ?_
    refine wpo_move (v := .int .i64 (j : Int)) e188 rfl ?_
    refine wpo_move (v := .slice a ms.length c) e189 rfl ?_
    refine wpo_move (v := .int .i64 (k : Int)) e190 rfl ?_
    obtain ⟨b193, q194, o195, ha196, ho197, hr198⟩ := SlAt.at (TabAt.low ht hb186).1 (Yc (Xx (show k < ms.length by omega)))
    have hle199 := TabLen.at hlen (Xx (show k < ms.length by omega))
    refine Xz Jf rfl rfl ha196 ho197 (by omega) (by omega) rfl ?_
    refine wpo_fieldAddr (o' := o195 + 5) Y7 rfl rfl rfl ?_
    refine wpo_load1 (v := .slice ((mAt ms k).sa) ((mAt ms k).t.slots.length) ((mAt ms k).sc)) Jl rfl (hr198 5 _ rfl) rfl ?_
    refine wpo_len (by kernel_rfl) rfl rfl ?_
    refine wpo_lss (q := decide ((j : Int) < ((mAt ms k).t.slots.length : Int))) rfl rfl rfl rfl ?_
    refine wpo_nil ?_
    refine Xp rfl (fun h200 => ?_) (fun h200 => ?_)
    ·
     have h201 := of_decide_eq_true h200
     refine Xm ?_
     refine Xo ?_
     refine Xh ?_
     refine Xu ?_
     refine Xa ?_
     refine wpo_move (v := .slice a ms.length c) e189 rfl ?_
     refine wpo_move (v := .int .i64 (k : Int)) e190 rfl ?_
     refine Xz Jf rfl rfl ha196 ho197 (by omega) (by omega) rfl ?_
     refine wpo_fieldAddr (o' := o195 + 5) Y7 rfl rfl rfl ?_
     refine wpo_load1 (v := .slice ((mAt ms k).sa) ((mAt ms k).t.slots.length) ((mAt ms k).sc)) Jl rfl (hr198 5 _ rfl) rfl ?_
     refine wpo_move (v := .int .i64 (j : Int)) e188 rfl ?_
     obtain ⟨b204, q205, o206, ha207, ho208, hr209⟩ := SlAt.at (TabAt.th (TabAt.low ht hb186) (Xx (show k < ms.length by omega))).1 (Yc (K8 (show j < (mAt ms k).t.slots.length by omega)))
     refine Xz Wo rfl rfl ha207 ho208 (by omega) (by omega) rfl ?_
     refine wpo_loadn (vs := [.int .i64 ((rAt (mAt ms k).t.slots j).th), .int .i64 ((rAt (mAt ms k).t.slots j).ve), .bool ((rAt (mAt ms k).t.slots j).rd), .bool ((rAt (mAt ms k).t.slots j).wr), .bool ((rAt (mAt ms k).t.slots j).wk)]) Js rfl rfl (Yq hr209 0 5 rfl) rfl ?_
     refine wpo_alloc (cs := #[.int .i64 0, .int .i64 0, .bool false, .bool false, .bool false]) Nb rfl rfl ?_
     intro B210 w211 hN212
     have hlB210 := Xv hN212 hb186
     have hb213 := low0 hb186 hN212.grw
     refine wpo_storen (vs := [.int .i64 ((rAt (mAt ms k).t.slots j).th), .int .i64 ((rAt (mAt ms k).t.slots j).ve), .bool ((rAt (mAt ms k).t.slots j).rd), .bool ((rAt (mAt ms k).t.slots j).wr), .bool ((rAt (mAt ms k).t.slots j).wk)]) (cs' := #[.int .i64 ((rAt (mAt ms k).t.slots j).th), .int .i64 ((rAt (mAt ms k).t.slots j).ve), .bool ((rAt (mAt ms k).t.slots j).rd), .bool ((rAt (mAt ms k).t.slots j).wr), .bool ((rAt (mAt ms k).t.slots j).wk)]) Js rfl rfl rfl (by simp [Value.oneCell']) hN212.blk (Nat.le_of_ble_eq_true rfl) rfl ?_
     intro w214 hS215
     have hb216 := low1 hb213 hS215.grw (by omega)
     refine wpo_nil ?_
     refine Ui (fun f' w' => (f' 0 = .slice a ms.length c ∧ f' 3 = .int .i64 (k : Int) ∧ f' 4 = .int .i64 (j : Int) ∧ f' 88 = .bool ((decide ((ms.length : Int) < (rAt (mAt ms k).t.slots j).th)) || ((decide (0 < (rAt (mAt ms k).t.slots j).th)) && (decide ((mAt ms ((((rAt (mAt ms k).t.slots j).th) - 1).toNat)).t.ve < (rAt (mAt ms k).t.slots j).ve))))) ∧ w214.grownBy w' none) ?_ ?_
     ·
      rcases X2 (decide ((ms.length : Int) < (rAt (mAt ms k).t.slots j).th)) with h226 | h226
      ·
       have h227 := of_decide_eq_true h226
       refine Yx (m := 19) (vals := [(67, .pointer (some ⟨B210, 0, none⟩)), (68, .int .i64 ((rAt (mAt ms k).t.slots j).th)), (69, .slice a ms.length c), (70, .int .i64 (ms.length : Int)), (71, .bool (decide ((ms.length : Int) < (rAt (mAt ms k).t.slots j).th))), (72, .bool (decide ((ms.length : Int) < (rAt (mAt ms k).t.slots j).th))), (73, undef), (74, undef), (75, undef), (76, undef), (77, undef), (78, undef), (79, undef), (80, undef), (81, undef), (82, undef), (83, undef), (84, undef), (85, undef)]) (fun w' => w214.grownBy w' none) Qd (by kernel_rfl) (X4 _) ?_ ?_
       ·
        refine Xd rfl (fun w228 hi229 => ?_) ?_
        ·
         have hb230 := low0 hb216 hi229
         refine wpo_fieldAddr (o' := 0) Qu rfl rfl rfl ?_
         exact wpo_nil ⟨rfl, hi229⟩
        refine Xd rfl (fun w231 hi232 => ?_) ?_
        ·
         have hb233 := low0 hb216 hi232
         have k234 := (hS215.blk.grown0 hi232)
         refine wpo_load1 (v := .int .i64 ((rAt (mAt ms k).t.slots j).th)) X1 rfl (k234.cell rfl) rfl ?_
         exact wpo_nil ⟨rfl, hi232⟩
        refine Xd rfl (fun w235 hi236 => ?_) ?_
        ·
         have hb237 := low0 hb216 hi236
         refine wpo_move (v := .slice a ms.length c) e189 rfl ?_
         exact wpo_nil ⟨rfl, hi236⟩
        refine Xd rfl (fun w238 hi239 => ?_) ?_
        ·
         have hb240 := low0 hb216 hi239
         refine wpo_len (by kernel_rfl) rfl rfl ?_
         exact wpo_nil ⟨rfl, hi239⟩
        refine Xd rfl (fun w241 hi242 => ?_) ?_
        ·
         have hb243 := low0 hb216 hi242
         refine wpo_gtr (q := decide ((ms.length : Int) < (rAt (mAt ms k).t.slots j).th)) rfl rfl rfl rfl ?_
         exact wpo_nil ⟨rfl, hi242⟩
        refine Xd rfl (fun w244 hi245 => ?_) ?_
        ·
         have hb246 := low0 hb216 hi245
         refine wpo_move (v := .bool (decide ((ms.length : Int) < (rAt (mAt ms k).t.slots j).th))) rfl rfl ?_
         exact wpo_nil ⟨rfl, hi245⟩
        refine Xd rfl (fun w247 hi248 => ?_) ?_
        ·
         have hb249 := low0 hb216 hi248
         refine Xe rfl rfl rfl h226 rfl ?_
         exact wpo_nil ⟨rfl, hi248⟩
        refine Xd rfl (fun w250 hi251 => ?_) ?_
        ·
         have hb252 := low0 hb216 hi251
         refine Xe rfl rfl rfl h226 rfl ?_
         exact wpo_nil ⟨rfl, hi251⟩
        refine Xd rfl (fun w253 hi254 => ?_) ?_
        ·
         have hb255 := low0 hb216 hi254
         refine Xe rfl rfl rfl h226 rfl ?_
         exact wpo_nil ⟨rfl, hi254⟩
        refine Xd rfl (fun w256 hi257 => ?_) ?_
        ·
         have hb258 := low0 hb216 hi257
         refine Xe rfl rfl rfl h226 rfl ?_
         exact wpo_nil ⟨rfl, hi257⟩
        refine Xd rfl (fun w259 hi260 => ?_) ?_
        ·
         have hb261 := low0 hb216 hi260
         refine X3 rfl rfl rfl rfl ?_
         exact wpo_nil ⟨rfl, hi260⟩
        refine Xd rfl (fun w262 hi263 => ?_) ?_
        ·
         have hb264 := low0 hb216 hi263
         refine X3 rfl rfl rfl rfl ?_
         exact wpo_nil ⟨rfl, hi263⟩
        refine Xd rfl (fun w265 hi266 => ?_) ?_
        ·
         have hb267 := low0 hb216 hi266
         refine X3 rfl rfl rfl rfl ?_
         exact wpo_nil ⟨rfl, hi266⟩
        refine Xd rfl (fun w268 hi269 => ?_) ?_
        ·
         have hb270 := low0 hb216 hi269
         refine X3 rfl rfl rfl rfl ?_
         exact wpo_nil ⟨rfl, hi269⟩
        refine Xd rfl (fun w271 hi272 => ?_) ?_
        ·
         have hb273 := low0 hb216 hi272
         refine X3 rfl rfl rfl rfl ?_
         exact wpo_nil ⟨rfl, hi272⟩
        refine Xd rfl (fun w274 hi275 => ?_) ?_
        ·
         have hb276 := low0 hb216 hi275
         refine X3 rfl rfl rfl rfl ?_
         exact wpo_nil ⟨rfl, hi275⟩
        refine Xd rfl (fun w277 hi278 => ?_) ?_
        ·
         have hb279 := low0 hb216 hi278
         refine X3 rfl rfl rfl rfl ?_
         exact wpo_nil ⟨rfl, hi278⟩
        refine Xd rfl (fun w280 hi281 => ?_) ?_
        ·
         have hb282 := low0 hb216 hi281
         refine X3 rfl rfl rfl rfl ?_
         exact wpo_nil ⟨rfl, hi281⟩
        refine Xd rfl (fun w283 hi284 => ?_) ?_
        ·
         have hb285 := low0 hb216 hi284
         refine X3 rfl rfl rfl rfl ?_
         exact wpo_nil ⟨rfl, hi284⟩
        exact Qc
       ·
        intro w286 hi287
        have hb288 := low0 hb216 hi287
        refine X3 rfl rfl rfl rfl ?_
        refine Xe rfl rfl rfl h226 rfl ?_
        refine wpo_pickt (v := .bool true) rfl h226 rfl rfl ?_
        exact wpo_nil (Xo ⟨⟨e189, e190, e188, (congrArg Value.bool (by first | (simp only [h107, h180, h181, h182, h183, h200, h226, b0, b1, b2, b3, b4, b5, b6, b7, b8, b9]; done) | simp [h107, h180, h181, h182, h183, h200, h226]))⟩, hi287⟩)
      ·
       have h289 := of_decide_eq_false h226
       rcases X2 (decide (0 < (rAt (mAt ms k).t.slots j).th)) with h290 | h290
       ·
        have h291 := of_decide_eq_true h290
        obtain ⟨b303, q304, o305, ha306, ho307, hr308⟩ := SlAt.at (TabAt.low ht hb216).1 (Yc (Xx (show (((rAt (mAt ms k).t.slots j).th) - 1).toNat < ms.length by omega)))
        have hle309 := TabLen.at hlen (Xx (show (((rAt (mAt ms k).t.slots j).th) - 1).toNat < ms.length by omega))
        refine Yx (m := 19) (vals := [(67, .pointer (some ⟨B210, 0, none⟩)), (68, .int .i64 ((rAt (mAt ms k).t.slots j).th)), (69, .slice a ms.length c), (70, .int .i64 (ms.length : Int)), (71, .bool (decide ((ms.length : Int) < (rAt (mAt ms k).t.slots j).th))), (72, .bool (decide ((ms.length : Int) < (rAt (mAt ms k).t.slots j).th))), (73, .pointer (some ⟨B210, 0, none⟩)), (74, .int .i64 ((rAt (mAt ms k).t.slots j).th)), (75, .bool (decide (0 < (rAt (mAt ms k).t.slots j).th))), (76, .bool (decide (0 < (rAt (mAt ms k).t.slots j).th))), (77, .pointer (some ⟨B210, 1, none⟩)), (78, .int .i64 ((rAt (mAt ms k).t.slots j).ve)), (79, .slice a ms.length c), (80, .pointer (some ⟨B210, 0, none⟩)), (81, .int .i64 ((rAt (mAt ms k).t.slots j).th)), (82, .int .i64 (((rAt (mAt ms k).t.slots j).th) - 1)), (83, .pointer (some ⟨b303, o305, none⟩)), (84, .pointer (some ⟨b303, o305 + 3, none⟩)), (85, .int .i64 ((mAt ms ((((rAt (mAt ms k).t.slots j).th) - 1).toNat)).t.ve))]) (fun w' => w214.grownBy w' none) Qd (by kernel_rfl) (X4 _) ?_ ?_
        ·
         refine Xd rfl (fun w310 hi311 => ?_) ?_
         ·
          have hb312 := low0 hb216 hi311
          refine wpo_fieldAddr (o' := 0) Qu rfl rfl rfl ?_
          exact wpo_nil ⟨rfl, hi311⟩
         refine Xd rfl (fun w313 hi314 => ?_) ?_
         ·
          have hb315 := low0 hb216 hi314
          have k316 := (hS215.blk.grown0 hi314)
          refine wpo_load1 (v := .int .i64 ((rAt (mAt ms k).t.slots j).th)) X1 rfl (k316.cell rfl) rfl ?_
          exact wpo_nil ⟨rfl, hi314⟩
         refine Xd rfl (fun w317 hi318 => ?_) ?_
         ·
          have hb319 := low0 hb216 hi318
          refine wpo_move (v := .slice a ms.length c) e189 rfl ?_
          exact wpo_nil ⟨rfl, hi318⟩
         refine Xd rfl (fun w320 hi321 => ?_) ?_
         ·
          have hb322 := low0 hb216 hi321
          refine wpo_len (by kernel_rfl) rfl rfl ?_
          exact wpo_nil ⟨rfl, hi321⟩
         refine Xd rfl (fun w323 hi324 => ?_) ?_
         ·
          have hb325 := low0 hb216 hi324
          refine wpo_gtr (q := decide ((ms.length : Int) < (rAt (mAt ms k).t.slots j).th)) rfl rfl rfl rfl ?_
          exact wpo_nil ⟨rfl, hi324⟩
         refine Xd rfl (fun w326 hi327 => ?_) ?_
         ·
          have hb328 := low0 hb216 hi327
          refine wpo_move (v := .bool (decide ((ms.length : Int) < (rAt (mAt ms k).t.slots j).th))) rfl rfl ?_
          exact wpo_nil ⟨rfl, hi327⟩
         refine Xd rfl (fun w329 hi330 => ?_) ?_
         ·
          have hb331 := low0 hb216 hi330
          refine Xb rfl rfl rfl h226 ?_
          refine wpo_fieldAddr (o' := 0) Qu rfl rfl rfl ?_
          exact wpo_nil ⟨rfl, hi330⟩
         refine Xd rfl (fun w332 hi333 => ?_) ?_
         ·
          have hb334 := low0 hb216 hi333
          refine Xb rfl rfl rfl h226 ?_
          have k335 := (hS215.blk.grown0 hi333)
          refine wpo_load1 (v := .int .i64 ((rAt (mAt ms k).t.slots j).th)) X1 rfl (k335.cell rfl) rfl ?_
          exact wpo_nil ⟨rfl, hi333⟩
         refine Xd rfl (fun w336 hi337 => ?_) ?_
         ·
          have hb338 := low0 hb216 hi337
          refine Xb rfl rfl rfl h226 ?_
          refine wpo_gtr (q := decide (0 < (rAt (mAt ms k).t.slots j).th)) rfl rfl rfl rfl ?_
          exact wpo_nil ⟨rfl, hi337⟩
         refine Xd rfl (fun w339 hi340 => ?_) ?_
         ·
          have hb341 := low0 hb216 hi340
          refine Xb rfl rfl rfl h226 ?_
          refine wpo_move (v := .bool (decide (0 < (rAt (mAt ms k).t.slots j).th))) rfl rfl ?_
          exact wpo_nil ⟨rfl, hi340⟩
         refine Xd rfl (fun w342 hi343 => ?_) ?_
         ·
          have hb344 := low0 hb216 hi343
          refine Xb rfl rfl rfl h290 ?_
          refine wpo_fieldAddr (o' := 1) Kl rfl rfl rfl ?_
          exact wpo_nil ⟨rfl, hi343⟩
         refine Xd rfl (fun w345 hi346 => ?_) ?_
         ·
          have hb347 := low0 hb216 hi346
          refine Xb rfl rfl rfl h290 ?_
          have k348 := (hS215.blk.grown0 hi346)
          refine wpo_load1 (v := .int .i64 ((rAt (mAt ms k).t.slots j).ve)) X1 rfl (k348.cell rfl) rfl ?_
          exact wpo_nil ⟨rfl, hi346⟩
         refine Xd rfl (fun w349 hi350 => ?_) ?_
         ·
          have hb351 := low0 hb216 hi350
          refine Xb rfl rfl rfl h290 ?_
          refine wpo_move (v := .slice a ms.length c) e189 rfl ?_
          exact wpo_nil ⟨rfl, hi350⟩
         refine Xd rfl (fun w352 hi353 => ?_) ?_
         ·
          have hb354 := low0 hb216 hi353
          refine Xb rfl rfl rfl h290 ?_
          refine wpo_fieldAddr (o' := 0) Qu rfl rfl rfl ?_
          exact wpo_nil ⟨rfl, hi353⟩
         refine Xd rfl (fun w355 hi356 => ?_) ?_
         ·
          have hb357 := low0 hb216 hi356
          refine Xb rfl rfl rfl h290 ?_
          have k358 := (hS215.blk.grown0 hi356)
          refine wpo_load1 (v := .int .i64 ((rAt (mAt ms k).t.slots j).th)) X1 rfl (k358.cell rfl) rfl ?_
          exact wpo_nil ⟨rfl, hi356⟩
         refine Xd rfl (fun w359 hi360 => ?_) ?_
         ·
          have hb361 := low0 hb216 hi360
          refine Xb rfl rfl rfl h290 ?_
          refine wpo_sub (c := ((rAt (mAt ms k).t.slots j).th) - 1) rfl rfl (by omega) (by omega) (by omega) rfl ?_
          exact wpo_nil ⟨rfl, hi360⟩
         refine Xd rfl (fun w362 hi363 => ?_) ?_
         ·
          have hb364 := low0 hb216 hi363
          refine Xb rfl rfl rfl h290 ?_
          refine Xz Jf rfl rfl ha306 ho307 (by omega) (by omega) rfl ?_
          exact wpo_nil ⟨rfl, hi363⟩
         refine Xd rfl (fun w365 hi366 => ?_) ?_
         ·
          have hb367 := low0 hb216 hi366
          refine Xb rfl rfl rfl h290 ?_
          refine wpo_fieldAddr (o' := o305 + 3) Ji rfl rfl rfl ?_
          exact wpo_nil ⟨rfl, hi366⟩
         refine Xd rfl (fun w368 hi369 => ?_) ?_
         ·
          have hb370 := low0 hb216 hi369
          refine Xb rfl rfl rfl h290 ?_
          refine wpo_load1 (v := .int .i64 ((mAt ms ((((rAt (mAt ms k).t.slots j).th) - 1).toNat)).t.ve)) X1 rfl ((Yd hr308 hi369) 3 _ rfl) rfl ?_
          exact wpo_nil ⟨rfl, hi369⟩
         exact Qc
        ·
         intro w371 hi372
         have hb373 := low0 hb216 hi372
         refine Xb rfl rfl rfl h290 ?_
         refine wpo_gtr (q := decide ((mAt ms ((((rAt (mAt ms k).t.slots j).th) - 1).toNat)).t.ve < (rAt (mAt ms k).t.slots j).ve)) rfl rfl rfl rfl ?_
         refine Xb rfl rfl rfl h226 ?_
         refine wpo_pickt (v := .bool (decide ((mAt ms ((((rAt (mAt ms k).t.slots j).th) - 1).toNat)).t.ve < (rAt (mAt ms k).t.slots j).ve))) rfl h290 rfl rfl ?_
         refine wpo_pickf (v := .bool (decide ((mAt ms ((((rAt (mAt ms k).t.slots j).th) - 1).toNat)).t.ve < (rAt (mAt ms k).t.slots j).ve))) rfl h226 rfl rfl ?_
         exact wpo_nil (Xo ⟨⟨e189, e190, e188, (congrArg Value.bool (by first | (simp only [h107, h180, h181, h182, h183, h200, h226, h290, b0, b1, b2, b3, b4, b5, b6, b7, b8, b9]; done) | simp [h107, h180, h181, h182, h183, h200, h226, h290]))⟩, hi372⟩)
       ·
        have h374 := of_decide_eq_false h290
        refine Yx (m := 19) (vals := [(67, .pointer (some ⟨B210, 0, none⟩)), (68, .int .i64 ((rAt (mAt ms k).t.slots j).th)), (69, .slice a ms.length c), (70, .int .i64 (ms.length : Int)), (71, .bool (decide ((ms.length : Int) < (rAt (mAt ms k).t.slots j).th))), (72, .bool (decide ((ms.length : Int) < (rAt (mAt ms k).t.slots j).th))), (73, .pointer (some ⟨B210, 0, none⟩)), (74, .int .i64 ((rAt (mAt ms k).t.slots j).th)), (75, .bool (decide (0 < (rAt (mAt ms k).t.slots j).th))), (76, .bool (decide (0 < (rAt (mAt ms k).t.slots j).th))), (77, undef), (78, undef), (79, undef), (80, undef), (81, undef), (82, undef), (83, undef), (84, undef), (85, undef)]) (fun w' => w214.grownBy w' none) Qd (by kernel_rfl) (X4 _) ?_ ?_
        ·
         refine Xd rfl (fun w375 hi376 => ?_) ?_
         ·
          have hb377 := low0 hb216 hi376
          refine wpo_fieldAddr (o' := 0) Qu rfl rfl rfl ?_
          exact wpo_nil ⟨rfl, hi376⟩
         refine Xd rfl (fun w378 hi379 => ?_) ?_
         ·
          have hb380 := low0 hb216 hi379
          have k381 := (hS215.blk.grown0 hi379)
          refine wpo_load1 (v := .int .i64 ((rAt (mAt ms k).t.slots j).th)) X1 rfl (k381.cell rfl) rfl ?_
          exact wpo_nil ⟨rfl, hi379⟩
         refine Xd rfl (fun w382 hi383 => ?_) ?_
         ·
          have hb384 := low0 hb216 hi383
          refine wpo_move (v := .slice a ms.length c) e189 rfl ?_
          exact wpo_nil ⟨rfl, hi383⟩
         refine Xd rfl (fun w385 hi386 => ?_) ?_
         ·
          have hb387 := low0 hb216 hi386
          refine wpo_len (by kernel_rfl) rfl rfl ?_
          exact wpo_nil ⟨rfl, hi386⟩
         refine Xd rfl (fun w388 hi389 => ?_) ?_
         ·
          have hb390 := low0 hb216 hi389
          refine wpo_gtr (q := decide ((ms.length : Int) < (rAt (mAt ms k).t.slots j).th)) rfl rfl rfl rfl ?_
          exact wpo_nil ⟨rfl, hi389⟩
         refine Xd rfl (fun w391 hi392 => ?_) ?_
         ·
          have hb393 := low0 hb216 hi392
          refine wpo_move (v := .bool (decide ((ms.length : Int) < (rAt (mAt ms k).t.slots j).th))) rfl rfl ?_
          exact wpo_nil ⟨rfl, hi392⟩
         refine Xd rfl (fun w394 hi395 => ?_) ?_
         ·
          have hb396 := low0 hb216 hi395
          refine Xb rfl rfl rfl h226 ?_
          refine wpo_fieldAddr (o' := 0) Qu rfl rfl rfl ?_
          exact wpo_nil ⟨rfl, hi395⟩
         refine Xd rfl (fun w397 hi398 => ?_) ?_
         ·
          have hb399 := low0 hb216 hi398
          refine Xb rfl rfl rfl h226 ?_
          have k400 := (hS215.blk.grown0 hi398)
          refine wpo_load1 (v := .int .i64 ((rAt (mAt ms k).t.slots j).th)) X1 rfl (k400.cell rfl) rfl ?_
          exact wpo_nil ⟨rfl, hi398⟩
         refine Xd rfl (fun w401 hi402 => ?_) ?_
         ·
          have hb403 := low0 hb216 hi402
          refine Xb rfl rfl rfl h226 ?_
          refine wpo_gtr (q := decide (0 < (rAt (mAt ms k).t.slots j).th)) rfl rfl rfl rfl ?_
          exact wpo_nil ⟨rfl, hi402⟩
         refine Xd rfl (fun w404 hi405 => ?_) ?_
         ·
          have hb406 := low0 hb216 hi405
          refine Xb rfl rfl rfl h226 ?_
          refine wpo_move (v := .bool (decide (0 < (rAt (mAt ms k).t.slots j).th))) rfl rfl ?_
          exact wpo_nil ⟨rfl, hi405⟩
         refine Xd rfl (fun w407 hi408 => ?_) ?_
         ·
          have hb409 := low0 hb216 hi408
          refine Xe rfl rfl rfl h290 rfl ?_
          exact wpo_nil ⟨rfl, hi408⟩
         refine Xd rfl (fun w410 hi411 => ?_) ?_
         ·
          have hb412 := low0 hb216 hi411
          refine Xe rfl rfl rfl h290 rfl ?_
          exact wpo_nil ⟨rfl, hi411⟩
         refine Xd rfl (fun w413 hi414 => ?_) ?_
         ·
          have hb415 := low0 hb216 hi414
          refine Xe rfl rfl rfl h290 rfl ?_
          exact wpo_nil ⟨rfl, hi414⟩
         refine Xd rfl (fun w416 hi417 => ?_) ?_
         ·
          have hb418 := low0 hb216 hi417
          refine Xe rfl rfl rfl h290 rfl ?_
          exact wpo_nil ⟨rfl, hi417⟩
         refine Xd rfl (fun w419 hi420 => ?_) ?_
         ·
          have hb421 := low0 hb216 hi420
          refine Xe rfl rfl rfl h290 rfl ?_
          exact wpo_nil ⟨rfl, hi420⟩
         refine Xd rfl (fun w422 hi423 => ?_) ?_
         ·
          have hb424 := low0 hb216 hi423
          refine Xe rfl rfl rfl h290 rfl ?_
          exact wpo_nil ⟨rfl, hi423⟩
         refine Xd rfl (fun w425 hi426 => ?_) ?_
         ·
          have hb427 := low0 hb216 hi426
          refine Xe rfl rfl rfl h290 rfl ?_
          exact wpo_nil ⟨rfl, hi426⟩
         refine Xd rfl (fun w428 hi429 => ?_) ?_
         ·
          have hb430 := low0 hb216 hi429
          refine Xe rfl rfl rfl h290 rfl ?_
          exact wpo_nil ⟨rfl, hi429⟩
         refine Xd rfl (fun w431 hi432 => ?_) ?_
         ·
          have hb433 := low0 hb216 hi432
          refine Xe rfl rfl rfl h290 rfl ?_
          exact wpo_nil ⟨rfl, hi432⟩
         exact Qc
        ·
         intro w434 hi435
         have hb436 := low0 hb216 hi435
         refine Xe rfl rfl rfl h290 rfl ?_
         refine Xb rfl rfl rfl h226 ?_
         refine wpo_pickf (v := .bool false) rfl h290 rfl rfl ?_
         refine wpo_pickf (v := .bool false) rfl h226 rfl rfl ?_
         exact wpo_nil (Xo ⟨⟨e189, e190, e188, (congrArg Value.bool (by first | (simp only [h107, h180, h181, h182, h183, h200, h226, h290, b0, b1, b2, b3, b4, b5, b6, b7, b8, b9]; done) | simp [h107, h180, h181, h182, h183, h200, h226, h290]))⟩, hi435⟩)
     ·
      rintro f437 w438 ⟨⟨e439, e440, e441, e442⟩, hg443⟩
      have hb444 := low0 hb216 hg443
      refine Xp e442 (fun h445 => ?_) (fun h445 => ?_)
      ·
       refine Xa ?_
       refine wpo_assign (v := .bool false) rfl rfl ?_
       refine wpo_nil ?_
       refine Xk ?_
       refine Y4 ?_
       refine Xy ?_
       refine Xy ?_
       refine Y4 ?_
       refine Y4 ?_
       refine Xy ?_
       refine Xy ?_
       refine Y4 ?_
       refine Xy ?_
       refine ⟨.bool false, res1 rfl rfl, ?_, hb444⟩
       exact congrArg Value.bool (Ed (by omega) (F7 (K8 (by omega)) (Qi ((L0 (Ld ((Vg rfl).2 h180).1 (K8 (by omega))).1).symm.trans h445))))
      ·
       have h446 := Vn h445
       have h447 := of_decide_eq_false h446
       have h448 := Vo h445
       refine Xm ?_
       refine Je ?_
       refine Xo ?_
       refine Xs ?_
       refine wpo_move (v := .int .i64 (j : Int)) e441 rfl ?_
       refine wpo_add (c := (j : Int) + 1) rfl rfl (by omega) (by omega) (by omega) rfl ?_
       refine wpo_assign (v := .int .i64 ((j : Int) + 1)) rfl rfl ?_
       refine wpo_nil ?_
       refine Xo ?_
       exact ⟨(mAt ms k).t.slots.length - (j + 1), by omega, (j + 1), rfl, (by omega), (Q8 hrs (K8 (by omega)) (Y5 ((L0 (Ld ((Vg rfl).2 h180).1 (K8 (by omega))).1).symm.trans h445))), rfl, e439, e440, hb444⟩
    ·
     have h449 := of_decide_eq_false h200
     refine Yo ?_
     refine Yz ?_
     refine Yz ?_
     refine Jn ?_
     refine Je ?_
     refine Xo ?_
     refine Xs ?_
     refine wpo_move (v := .int .i64 (k : Int)) e190 rfl ?_
     refine wpo_add (c := (k : Int) + 1) rfl rfl (by omega) (by omega) (by omega) rfl ?_
     refine wpo_assign (v := .int .i64 ((k : Int) + 1)) rfl rfl ?_
     refine wpo_nil ?_
     refine Xo ?_
     exact ⟨ms.length - (k + 1), by omega, (k + 1), rfl, (by omega), (Q8 hall (K5 (by omega)) (F8 ((Vg rfl).2 h180).1 ((Vg rfl).2 h180).2 hrs (by omega))), rfl, e189, hb186⟩
 ·
  have h450 := of_decide_eq_false h107
  refine Yo ?_
  refine Yz ?_
  refine Yz ?_
  refine Jn ?_
  refine Xo ?_
  refine Xa ?_
  refine wpo_move (v := .slice a ms.length c) e106 rfl ?_
  refine wpo_len (by kernel_rfl) rfl rfl ?_
  refine Xi (vs := [.int .i64 (ms.length : Int), .int .i64 1, .int .i64 8]) V5 (Xc rfl (Xc rfl (Xc rfl Xg))) rfl (Ky (ms.length : Int) 1 8 _) ?_
  rintro _ w451 ⟨rfl, hg452⟩
  have hb453 := low0 hb103 hg452
  refine wpo_assign (v := .bool (inR (ms.length : Int) 1 8)) rfl rfl ?_
  refine wpo_nil ?_
  refine Xk ?_
  refine ⟨.bool (inR (ms.length : Int) 1 8), res1 rfl rfl, ?_, hb453⟩
  exact congrArg Value.bool (Ih hall (by omega))
end Go.Dw.J
end
section
namespace Go.Dw.J
open Go.Dw Go.RowKit
open Go.Conc (G)
set_option linter.unusedVariables false
set_option linter.unusedSimpArgs false
set_option linter.unusedSectionVars false
section
variable {P : Program}
theorem Uv (l : Nat) : Quiet P (Instr.getLoop l) := fun o h => by
  cases o <;> first
    | exact h.elim
    | exact Or.inl ⟨rfl, trivial⟩
    | exact Or.inr trivial
theorem Uw (l : Nat) (r : Loop) : Quiet P (setObj l (.loop r)) := ⟨⟨trivial, trivial, rfl⟩, trivial⟩
theorem Bp (r : Loop) : Quiet P (newObj (.loop r)) := ⟨trivial, fun _ => trivial⟩
theorem D1 (r : Option (List Deferred)) : Quiet P (newObj (.deferred r)) := ⟨trivial, fun _ => trivial⟩
theorem F4 (l : Nat) (args : Array Value) : Quiet P (Instr.yield l args) := by
  unfold Instr.yield
  refine qb (Uv l) fun r => ?_
  split
  · exact qb (Y2 _) fun _ => qp _
  · exact qp _
theorem Nr (l : Nat) : Quiet P (Instr.beginRound l) := by
  unfold Instr.beginRound
  refine qb (Uv l) fun r => qb (Uw l _) fun _ => ?_
  split <;> first | exact qp _ | exact X6 _
theorem Tc (l : Nat) (j : Option Code) : Quiet P (Instr.endRound l j) := by
  unfold Instr.endRound
  exact qb (Uv l) fun r => qb (Uw l _) fun _ => qp _
theorem Lx (l : Nat) : Quiet P (Instr.endLoop l) := by
  unfold Instr.endLoop
  refine qb (Uv l) fun r => ?_
  split
  · exact qb (X6 _) fun _ => qb (Uw l _) fun _ => qp _
  · exact qb (Uw l _) fun _ => qp _
theorem Rp (fn : FuncId) (tmps : Array Value) (ps : Array Tmp) (assign body : Code) : Quiet P (Instr.enterLoop fn tmps ps assign body none) := by
  unfold Instr.enterLoop
  dsimp only
  exact qb (D1 _) fun _ => qb (qp _) fun _ => qb (Bp _) fun _ => qp _
theorem H2 (D : Nat) : Quiet P (Instr.takeDeferred D) := fun o h => by
  cases o with
  | deferred r =>
    cases r with
    | none => exact Or.inl ⟨rfl, trivial⟩
    | some ds => exact Or.inl ⟨rfl, ⟨trivial, trivial, rfl⟩, trivial⟩
  | cells _ _ _ => exact h.elim
  | _ => exact Or.inr trivial
end
section
variable [Comp] {P : Program}
def YieldAt (P : Program) (l : Nat) (args : Array Value) (W : World) (R : Value → World → Prop) : Prop :=
  ∃ fn tmps assign body, (∀ A1, Ext W A1 → (Instr.yield l args).run P A1 = .ok (.round l fn tmps assign body) A1) ∧ FrameR P (Frame.round l fn tmps assign body .normal) W R
variable {n : Nat} {ops : Array Oper} {K : Fr → World → Prop} {l : List Oper} {f : Fr} {w : World} {o : Oper} {ty : TypeId} {pos : String} {aft : Array Edge} {d : Nat}
theorem Cn {x : Operand} {args : Array Operand} {ats : Array TypeId} {lr : Nat} {vs : List Value} {R : Value → World → Prop} (hx : ev f x = .func (.yield lr) #[] #[]) (ha : args.toList.map (ev f) = vs) (hd : Nat.blt d n = true) (hy : YieldAt P lr vs.toArray w R)
    (h : ∀ v w', R v w' → WpO P n ops K l (up f d v) w') : WpO P n ops K (⟨some d, .call ⟨.value x, args, ats⟩, ty, pos, aft, none⟩ :: l) f w := fun a hfa => by
  obtain ⟨fn, tmps, assign, body, hr, hR⟩ := hy
  have e1 : args.map (ev f) = vs.toArray := by rw [← ha]; apply Array.ext'; simp
  have e2 : execOp (ev f) ⟨some d, .call ⟨.value x, args, ats⟩, ty, pos, aft, none⟩ = (Deferred.ofValue (ev f x) (args.map (ev f)) >>= fun d => invoke d.target d.args) := rfl
  have e3 : execOp (ev f) ⟨some d, .call ⟨.value x, args, ats⟩, ty, pos, aft, none⟩ = Instr.yield lr (#[] ++ vs.toArray) := by
    rw [e2, hx, e1]
    rfl
  have e4 : #[] ++ vs.toArray = vs.toArray := by simp
  rw [e4] at e3
  refine Or.inl ⟨by simp [Region.wanted], Or.inr ⟨R, U2 (by rw [hfa.eval, e3]; exact F4 _ _) (fun A1 hE => ⟨_, by rw [hfa.eval, e3]; exact hr A1 hE, Or.inr ⟨lr, fn, tmps, assign, body, rfl, rfl⟩⟩) hR, fun v A' hRv => ⟨_, hfa.put hd v, h v A' hRv⟩⟩⟩
def SeqStops {α : Type} (P : Program) (g : Nat) (lb : Array Value) (encs : α → Array Value) (Kp : World → World → Prop) (S Sp : List α → Prop) (N : Nat) (w : World) : Prop :=
  ∀ (l : Nat) (J Jx : List α → World → Prop) (W : World), Below w.heap.size w W → AbidesFrom W.heap.size J → AbidesFrom W.heap.size Jx →
    (∀ pre x W1, J pre W1 → pre.length < N → YieldAt P l (encs x) W1 fun v W' => (v = .bool true ∧ J (pre ++ [x]) W' ∧ Kp W1 W') ∨ (v = .bool false ∧ Jx (pre ++ [x]) W')) →
    J [] W → CallsR P g (#[.func (.yield l) #[] #[]] ++ lb) W fun v W' => (∃ xs, S xs ∧ J xs W') ∨ (∃ pre, Sp pre ∧ Jx pre W')
end
def lp (st : LoopState) (pd : Option Code) (fn : FuncId) (tmps : Array Value) (ps : Array Tmp) (assign body : Code) (D : Nat) : Obj := .loop { state := st, pending := pd, fn, tmps, params := ps, assign, body, defers := D }
theorem Kz {W : World} {l j : Nat} {o : Obj} (h : l ≠ j) : (W.putObj l o).heap[j]? = W.heap[j]? := by simp [World.putObj, Array.getElem?_setIfInBounds_ne h]
theorem V9 {W : World} {l : Nat} {o o' : Obj} (h : W.heap[l]? = some o') : (W.putObj l o).heap[l]? = some o := by
  have := (Array.getElem?_eq_some_iff.1 h).1
  simp [World.putObj, this]
theorem Fa {A A1 : World} {l : Nat} {o : Obj} (hE : Ext A A1) (hl : l < A.heap.size) : Ext (A.putObj l o) (norm A (A1.putObj l o)) := by
  obtain ⟨m, h1, h2, h3⟩ := hE
  refine ⟨m, ?_, h2, h3⟩
  show A1.heap.setIfInBounds l o = A.heap.setIfInBounds l o ++ Array.replicate m pz
  rw [h1]
  apply Array.ext'
  simp [List.set_append, hl]
section
variable [Comp] {P : Program} {J : Goroutine → World → Prop}
theorem Closed.turn (hJ : Closed P J) {α : Type} {s : Sem α} {g : Goroutine} {next : α → Goroutine} {A : World} {l : Nat} {o o' : Obj} {x : α} (hr : g.status = .running) (hq : Quiet P s) (hl : A.heap[l]? = some o)
    (hst : ∀ w x w' es, s.runT P w #[] = (.ok x w', es) → ∃ es', stepG P Comp.main g w = .go (next x) w' es' ∧ ∀ e ∈ es', e ∈ es)
    (hrun : ∀ A1 : World, A1.heap[l]? = some o → s.run P A1 = .ok x (A1.putObj l o')) (h : J (next x) (A.putObj l o')) : J g A :=
  hJ.sem hr hq hst fun A1 hE => ⟨x, _, hrun A1 (by rw [hE.get (Array.getElem?_eq_some_iff.1 hl).1]; exact hl), hJ.ext _ _ _ (Fa hE (Array.getElem?_eq_some_iff.1 hl).1) rfl h⟩
theorem Gk {P : Program} {α : Type} {s : Sem α} {w w' : World} {x : α} {es : Array Event} (hh : s.runT P w #[] = (.ok x w', es)) : s.run P w = .ok x w' ∧ s.events P w #[] = es := by
  have e1 := Sem.runT_fst P s w #[]
  rw [hh] at e1
  exact ⟨e1.symm, by unfold Sem.events; rw [hh]⟩
def rb (l : Nat) (fn : FuncId) : Frame := { (default : Frame) with fn := fn, kind := .normal, roundOf := some l }
theorem D3 (l : Nat) (fn : FuncId) (tmps : Array Value) (assign body : Code) : Frame.round l fn tmps assign body .normal = ato (rb l fn) { tmps := tmps, defers := [] } [.code assign, .beginRound, .code body] := rfl
theorem Tj {l : Nat} {fn : FuncId} {tmps rt : Array Value} {ps : Array Tmp} {assign body : Code} {D : Nat} {n : Nat} {f0 : Fr} {W : World} {Mid : Fr → World → Prop} {R : Value → World → Prop}
    (hf0 : FEq n { tmps := tmps, defers := [] } f0)
    (ha : Wpf P n (fun e f' W' => e = .normal ∧ W'.heap[l]? = some (lp .ready none fn rt ps assign body D) ∧ Mid f' (W'.putObj l (lp .busy none fn rt ps assign body D))) assign f0 W)
    (hb : ∀ f1 W1, Mid f1 W1 → Wpf P n (fun e f' W' => (e = .normal ∧ W'.heap[l]? = some (lp .busy none fn rt ps assign body D) ∧ R (.bool true) (W'.putObj l (lp .ready none fn rt ps assign body D))) ∨
      (e = .ret ∧ W'.heap[l]? = some (lp .busy none fn rt ps assign body D) ∧ R (.bool false) (W'.putObj l (lp .done (some .ret) fn rt ps assign body D)))) body f1 W1) :
    FrameR P (Frame.round l fn tmps assign body .normal) W R := fun J hJ c cs hk => by
  have hend : ∀ (a' : Act) (todo : List Item) (jump : Option Code) (W' : World) (o' : Obj), (todo = [] ∧ jump = none ∨ (∃ k, todo = .code .ret :: k) ∧ jump = some .ret) → W'.heap[l]? = some (lp .busy none fn rt ps assign body D) →
      o' = lp (if jump.isNone then .ready else .done) jump fn rt ps assign body D → R (.bool jump.isNone) (W'.putObj l o') → J (G (ato (rb l fn) a' todo) (c :: cs)) W' := fun a' todo jump W' o' htodo hl ho' hR => by
    subst ho'
    refine hJ.turn (s := Instr.endRound l jump) (next := fun v => G (c.finish v) cs) (x := .bool jump.isNone) rfl (Tc l jump) hl (fun w x w' es hh => ⟨seen P fn es, ?_, fun e he => Go.Conc.mem_seen he⟩) (fun A1 h1 => run_endRound jump h1) (hk _ _ hR)
    obtain ⟨e1, e2⟩ := Gk hh
    rcases htodo with ⟨rfl, rfl⟩ | ⟨⟨k, rfl⟩, rfl⟩ <;> simp [G, stepG, stepG.exec, ato, rb, doReturn, e1, e2, GStep.after]
  rw [D3]
  refine ha J hJ (rb l fn) (by simp [rb]) _ _ _ hf0 fun e a1 f1 W1 hf1 hQ => ?_
  obtain ⟨rfl, hl1, hm⟩ := hQ
  show J (G (ato (rb l fn) a1 [.beginRound, .code body]) (c :: cs)) W1
  refine hJ.turn (s := Instr.beginRound l) (next := fun _ => G (ato (rb l fn) a1 [.code body]) (c :: cs)) (x := ()) rfl (Nr l) hl1 (fun w x w' es hh => ⟨seen P fn es, ?_, fun e he => Go.Conc.mem_seen he⟩) (fun A1 h1 => run_beginRound h1 rfl) ?_
  · obtain ⟨e1, e2⟩ := Gk hh
    simp [G, stepG, stepG.exec, stepG.apply, ato, rb, Frame.finish, e1, e2, GStep.after]
  · refine hb f1 _ hm J hJ (rb l fn) (by simp [rb]) [] (c :: cs) a1 hf1 fun e a2 f2 W2 hf2 hQ => ?_
    rcases hQ with ⟨rfl, hl2, hR⟩ | ⟨rfl, hl2, hR⟩
    · exact hend a2 [] none W2 _ (Or.inl ⟨rfl, rfl⟩) hl2 rfl hR
    · exact fun k => hend a2 _ (some .ret) W2 _ (Or.inr ⟨⟨k, rfl⟩, rfl⟩) hl2 rfl hR
def AbidesN {β : Type} (B : Nat) (J : β → World → Prop) : Prop :=
  ∀ s A A' row, J s A → A.grownBy A' row → (∀ r, row = some r → B ≤ r ∧ ∃ o : Obj, A.heap[r]? = some o ∧ o.isCells = false) → J s A'
theorem Tx {o : Obj} (h : o.isWalk = true) : o.isCells = false := by cases o <;> first | rfl | cases h
def KeepH (lo : Nat) (W W' : World) : Prop := ∀ j, lo ≤ j → j < W.heap.size → W'.heap[j]? = W.heap[j]?
theorem Rw {P : Program} {k : FuncId} (h : goFn P k = true) (args : Array Value) (w : World) (es : Array Event) : (callFunc k args).runT P w es = (.ok (.enter k args) w, es) := by
  unfold goFn at h
  split at h
  · rename_i fn hf
    simp only [Bool.and_eq_true, Bool.not_eq_true'] at h
    obtain ⟨hb, hn⟩ := h
    have hb' : fn.body.isNone = false := by cases hh : fn.body <;> simp_all
    show Sem.runT P (match P.funcs[k]? with | none => _ | some fn => _) w es = _
    rw [hf]
    simp only [hn, hb', Bool.false_eq_true, if_false]
    rfl
  · cases h
theorem Bv (hJ : Closed P J) {α : Type} {b : Frame} (hbk : b.kind ≠ .early) (hro : b.roundOf = none) {k : List Item} {cs : List Frame} {tm : Array Value} {fo : Operand} {xslot : Nat} {assign body : Code} {g : FuncId} {lb : Array Value} {encs : α → Value} {S Sp : List α → Prop} {N n : Nat} {w0 w : World} {fT : Fr}
    (ha : FEq n { tmps := tm, defers := [] } fT) (hf : ev fT fo = .func (.func g) #[] lb) (hgo : goFn P g = true) (hxs : Nat.blt xslot n = true)
    (hseq : SeqStops P g lb (fun x => #[encs x]) (Below w0.heap.size) S Sp N w0) (h0 : Below w0.heap.size w0 w) (h0s : w0.heap.size ≤ w.heap.size)
    (I Ix : List α → World → Prop) (hI : AbidesN w.heap.size I) (hIx : AbidesN w.heap.size Ix) (hi0 : I [] w)
    (M : α → Fr → World → Prop) (hM : ∀ f, AbidesN w.heap.size (fun x => M x f))
    (hassign : ∀ pre x W, w.heap.size ≤ W.heap.size → I pre W → Wpf P n (fun e f' W' => e = .normal ∧ W.grownBy W' none ∧ M x f' W') assign (up fT xslot (encs x)) W)
    (hbody : ∀ pre x f' W, w.heap.size ≤ W.heap.size → I pre W → M x f' W → pre.length < N → Wpf P n (fun e f'' W' => (e = .normal ∧ KeepH w.heap.size W W' ∧ Below w0.heap.size W W' ∧ I (pre ++ [x]) W') ∨ (e = .ret ∧ KeepH w.heap.size W W' ∧ W.heap.size ≤ W'.heap.size ∧ Ix (pre ++ [x]) W')) body f' W)
    (hdone : ∀ D xs W, w.heap.size ≤ D → S xs → I xs W → W.heap[D]? = some (.deferred (some [])) → J (G (ato b { tmps := tm, defers := [{ target := .collected D, args := #[] }] } k) cs) W)
    (hstop : ∀ D pre W, w.heap.size ≤ D → Sp pre → Ix pre W → W.heap[D]? = some (.deferred (some [])) → J (G (ato b { tmps := tm, defers := [{ target := .collected D, args := #[] }] } (.code .ret :: k)) cs) W) :
    J (G (ato b { tmps := tm, defers := [] } (.code (.rangeFunc fo #[xslot] assign body) :: k)) cs) w := by
  refine hJ.sem (s := Instr.enterLoop b.fn tm #[xslot] assign body none) (next := fun x => G (Frame.enter P g (#[.func (.yield x.1) #[] #[]] ++ lb) .normal) (ato b { tmps := tm, defers := x.2 } (.inRangeFunc x.1 :: k) :: cs)) rfl (Rp _ _ _ _ _) (fun w1 x w' es hh => ?_) fun A1 hE => ?_
  · have hev : ∀ fr : Frame, fr.tmps = tm → fr.eval fo = .func (.func g) #[] lb := fun fr htm => by
      rw [← hf, ← ha.eval]
      cases fo <;> simp [Frame.eval, Act.eval, htm]
    have hres : ∀ (fr : Frame) (l : Nat), fr.tmps = tm → resolve fr.eval { callee := .value fo, args := #[.const (.func (.yield l) #[] #[])], argTypes := #[] } 0 = (pure { target := .fn (.func g) lb, args := #[.func (.yield l) #[] #[]] } : Sem Deferred) := fun fr l htm => by
      have e : resolve fr.eval { callee := .value fo, args := #[.const (.func (.yield l) #[] #[])], argTypes := #[] } 0 = Deferred.ofValue (fr.eval fo) (#[Operand.const (.func (.yield l) #[] #[])].map fr.eval) := rfl
      have e2 : #[Operand.const (.func (.yield l) #[] #[])].map fr.eval = #[.func (.yield l) #[] #[]] := by simp [Frame.eval]
      rw [e, e2, hev fr htm]
      rfl
    have hev2 : ∀ (args : Array Value) (w : World), (callFunc g args).events P w #[] = #[] := fun args w => by unfold Sem.events; rw [Rw hgo]
    obtain ⟨e1, e2⟩ := Gk hh
    refine ⟨seen P b.fn es ++ seen P b.fn #[], ?_, fun e he => ?_⟩
    · obtain ⟨l, mark⟩ := x
      have hk' : (b.kind == CallKind.early) = false := by simpa using hbk
      simp [G, stepG, stepG.exec, stepG.apply, ato, hro, e1, e2, hres, invoke, Wa hgo, hev2, GStep.after, hk']
    · rw [Go.Conc.seen_none, Array.append_empty] at he
      exact Go.Conc.mem_seen he
  · have key : ∀ (W0 : World) (D : Nat), w.heap.size ≤ D → w.grownBy W0 none → D + 1 < W0.heap.size → W0.heap[D + 1]? = some (lp .ready none b.fn tm #[xslot] assign body D) → W0.heap[D]? = some (.deferred (some [])) →
        J (G (Frame.enter P g (#[.func (.yield (D + 1)) #[] #[]] ++ lb) .normal) (ato b { tmps := tm, defers := [{ target := .collected D, args := #[] }] } (.inRangeFunc (D + 1) :: k) :: cs)) W0 := by
      intro W0 D hD hg0 hs0 hl0 hd0
      have hput : ∀ (W' : World) (o o' : Obj), W'.heap[D + 1]? = some o → o.isCells = false → W'.grownBy (W'.putObj (D + 1) o') (some (D + 1)) ∧ ∀ r, some (D + 1) = some r → w.heap.size ≤ r ∧ ∃ o : Obj, W'.heap[r]? = some o ∧ o.isCells = false := fun W' o o' ho hc =>
        ⟨grownBy_putObj' _ _ _, fun r e => by cases e; exact ⟨by omega, o, ho, hc⟩⟩
      have hab : ∀ {β : Type} (Q : β → World → Prop), AbidesN w.heap.size Q → ∀ st pd, AbidesFrom W0.heap.size (fun pre W => Q pre W ∧ w.heap.size ≤ W.heap.size ∧ W.heap[D + 1]? = some (lp st pd b.fn tm #[xslot] assign body D) ∧ W.heap[D]? = some (.deferred (some []))) := fun Q hQ st pd s A A' row ⟨h1, h2, h3, h4⟩ hg hr => by
        have hne : ∀ j, j ≤ D + 1 → some j ≠ row := fun j hj e => by have := (hr j e.symm).1; omega
        exact ⟨hQ _ _ _ _ h1 hg (fun r e => ⟨Nat.le_trans (by omega : w.heap.size ≤ W0.heap.size) (hr r e).1, let ⟨o, ho, hw⟩ := (hr r e).2; ⟨o, ho, Tx hw⟩⟩), Nat.le_trans h2 hg.size,
          (hg.block _ (Array.getElem?_eq_some_iff.1 h3).1 (hne _ (Nat.le_refl _))).trans h3, (hg.block _ (Array.getElem?_eq_some_iff.1 h4).1 (hne _ (by omega))).trans h4⟩
      refine hseq (D + 1) (fun pre W => I pre W ∧ w.heap.size ≤ W.heap.size ∧ W.heap[D + 1]? = some (lp .ready none b.fn tm #[xslot] assign body D) ∧ W.heap[D]? = some (.deferred (some [])))
        (fun pre W => Ix pre W ∧ w.heap.size ≤ W.heap.size ∧ W.heap[D + 1]? = some (lp .done (some .ret) b.fn tm #[xslot] assign body D) ∧ W.heap[D]? = some (.deferred (some []))) W0 (h0.grown hg0 h0s (by simp)) (hab I hI _ _) (hab Ix hIx _ _) ?_ ⟨hI _ _ _ none hi0 hg0 (by simp), hg0.size, hl0, hd0⟩ J hJ _ cs ?_
      · rintro pre x W1 ⟨h1, h2, h3, h4⟩ hlen
        have hl1 := (Array.getElem?_eq_some_iff.1 h3).1
        have hl2 := (Array.getElem?_eq_some_iff.1 h4).1
        refine ⟨b.fn, tm.setIfInBounds xslot (encs x), assign, body, fun A1 hE1 => ?_, ?_⟩
        · have := run_yield (P := P) (args := #[encs x]) (w := A1) (l := D + 1) (r := { state := .ready, pending := none, fn := b.fn, tmps := tm, params := #[xslot], assign, body, defers := D }) (by rw [hE1.get hl1]; exact h3) rfl
          simpa using this
        · refine Tj (n := n) (f0 := up fT xslot (encs x)) (D := D) (rt := tm) (ps := #[xslot])
            (Mid := fun f' W' => M x f' W' ∧ I pre W' ∧ w.heap.size ≤ W'.heap.size ∧ W'.heap[D + 1]? = some (lp .busy none b.fn tm #[xslot] assign body D) ∧ W'.heap[D]? = some (.deferred (some [])) ∧ Below w0.heap.size W1 W')
            (by have hp := ha.put (d := xslot) hxs (encs x); simpa [Act.put] using hp) ((hassign pre x W1 h2 h1).mono ?_) (fun f1 W2 hm => (hbody pre x f1 W2 hm.2.2.1 hm.2.1 hm.1 hlen).mono ?_)
          · rintro e f' W' ⟨rfl, hg, hm⟩
            have hl' := (hg.block _ hl1 (by simp)).trans h3
            obtain ⟨hp, hc⟩ := hput W' _ (lp .busy none b.fn tm #[xslot] assign body D) hl' rfl
            have hb1 : Below w0.heap.size W1 W' := (Below.refl _ _).grown hg (Nat.le_trans h0s h2) (by simp)
            exact ⟨rfl, hl', hM f' _ _ _ _ hm hp hc, hI _ _ _ _ (hI _ _ _ none h1 hg (by simp)) hp hc, by rw [World.putObj_size]; exact Nat.le_trans h2 hg.size, V9 hl', (Kz (by omega)).trans ((hg.block _ hl2 (by simp)).trans h4),
              hb1.grown hp (Nat.le_trans h0s (Nat.le_trans h2 hg.size)) (fun j e => by cases e; omega)⟩
          · obtain ⟨hm1, hm2, hm3, hm4, hm5, hm6⟩ := hm
            rintro e f' W3 (⟨rfl, hk, hb3, hi3⟩ | ⟨rfl, hk, hsz, hx3⟩)
            · have hl3 := (hk (D + 1) (by omega) (Array.getElem?_eq_some_iff.1 hm4).1).trans hm4
              obtain ⟨hp, hc⟩ := hput W3 _ (lp .ready none b.fn tm #[xslot] assign body D) hl3 rfl
              exact Or.inl ⟨rfl, hl3, Or.inl ⟨rfl, ⟨hI _ _ _ _ hi3 hp hc, by rw [World.putObj_size]; exact Nat.le_trans hm3 hb3.size, V9 hl3, (Kz (by omega)).trans ((hk D hD (Array.getElem?_eq_some_iff.1 hm5).1).trans hm5)⟩,
                (hm6.trans hb3).grown hp (Nat.le_trans h0s (Nat.le_trans hm3 hb3.size)) (fun j e => by cases e; omega)⟩⟩
            · have hl3 := (hk (D + 1) (by omega) (Array.getElem?_eq_some_iff.1 hm4).1).trans hm4
              obtain ⟨hp, hc⟩ := hput W3 _ (lp .done (some .ret) b.fn tm #[xslot] assign body D) hl3 rfl
              exact Or.inr ⟨rfl, hl3, Or.inr ⟨rfl, hIx _ _ _ _ hx3 hp hc, by rw [World.putObj_size]; exact Nat.le_trans hm3 hsz, V9 hl3, (Kz (by omega)).trans ((hk D hD (Array.getElem?_eq_some_iff.1 hm5).1).trans hm5)⟩⟩
      · intro v A' h
        show J (G (ato b { tmps := tm, defers := [{ target := .collected D, args := #[] }] } (.endRangeFunc (D + 1) :: k)) cs) A'
        have hst : ∀ (w1 : World) (x : Option Code) (w' : World) (es : Array Event), (Instr.endLoop (D + 1)).runT P w1 #[] = (.ok x w', es) → ∃ es', stepG P Comp.main (G (ato b { tmps := tm, defers := [{ target := .collected D, args := #[] }] } (.endRangeFunc (D + 1) :: k)) cs) w1 =
            .go (G (ato b { tmps := tm, defers := [{ target := .collected D, args := #[] }] } ((x.map Item.code).toList ++ k)) cs) w' es' ∧ ∀ e ∈ es', e ∈ es := fun w1 x w' es hh => ⟨seen P b.fn es, by
          obtain ⟨e1, e2⟩ := Gk hh
          simp [G, stepG, stepG.exec, ato, e1, e2, GStep.after], fun e he => Go.Conc.mem_seen he⟩
        rcases h with ⟨xs, hS, h1, h2, h3, h4⟩ | ⟨pre, hSp, h1, h2, h3, h4⟩
        · obtain ⟨hp, hc⟩ := hput A' _ (lp .exhausted none b.fn tm #[xslot] assign body D) h3 rfl
          exact hJ.turn (x := none) rfl (Lx _) h3 hst (fun A1 h => run_endLoop h (by simp)) (hdone D xs _ hD hS (hI _ _ _ _ h1 hp hc) ((Kz (by omega)).trans h4))
        · obtain ⟨hp, hc⟩ := hput A' _ (lp .exhausted (some .ret) b.fn tm #[xslot] assign body D) h3 rfl
          exact hJ.turn (x := some Code.ret) rfl (Lx _) h3 hst (fun A1 h => run_endLoop h (by simp)) (hstop D pre _ hD hSp (hIx _ _ _ _ h1 hp hc) ((Kz (by omega)).trans h4))
    refine ⟨_, _, run_enterLoop_outer _ _ _ _ _, ?_⟩
    have hg : A1.grownBy ((A1.alloc (.deferred (some []))).alloc (lp .ready none b.fn tm #[xslot] assign body A1.heap.size)) none := Xj (World.grownBy_alloc _ _ _) (World.grownBy_alloc _ _ _)
    refine key _ A1.heap.size hE.size (hE.grow hg) ?_ ?_ ?_
    · show A1.heap.size + 1 < ((A1.heap.push _).push _).size
      simp
    · have h := World.alloc_heap_new (A1.alloc (.deferred (some []))) (lp .ready none b.fn tm #[xslot] assign body A1.heap.size)
      rw [World.size_alloc] at h
      exact h
    · show ((A1.heap.push _).push _)[A1.heap.size]? = _
      rw [Array.getElem?_push_lt (by simp)]
      simp
theorem S4 {lo : Nat} {W W' : World} (hg : W.grownBy W' none) : KeepH lo W W' := fun j _ h2 => hg.block j h2 (by simp)
theorem S5 {lo B : Nat} {W W' : World} (hg : W.grownBy W' (some B)) (hB : B < lo) : KeepH lo W W' := fun j h1 h2 => hg.block j h2 (fun e => by cases e; omega)
structure EndJ (P : Program) (fn : Func) (R : Value → World → Prop) (J : Goroutine → World → Prop) (b : Frame) (cs : List Frame) : Prop where
  closed : Closed P J
  fnd : P.funcs[b.fn]? = some fn
  kind : b.kind = .normal
  ro : b.roundOf = none
  df : b.defers = []
  back : ∃ c cs0, cs = c :: cs0 ∧ ∀ v A', R v A' → J (G (c.finish v) cs0) A'
variable {fn : Func} {R : Value → World → Prop} {b : Frame} {cs : List Frame} {n : Nat}
theorem EndJ.early (h : EndJ P fn R J b cs) : b.kind ≠ .early := by rw [h.kind]; simp
theorem EndJ.fin (h : EndJ P fn R J b cs) {a : Act} {f : Fr} {A : World} (ha : FEq n a f) (hR : ∃ v, resV P fn f A v ∧ R v A) (k : List Item) : J (G (ato b a (.code .ret :: k)) cs) A := by
  obtain ⟨c, cs0, rfl, hk⟩ := h.back
  obtain ⟨v, hv, hR⟩ := hR
  exact h.closed.move rfl (fun w => Vh h.ro) (h.closed.leave h.kind h.df ha.defers h.fnd (fun A1 hE => hv A1 hE _ ha.at_) (hk v A hR) _)
theorem EndJ.finD (h : EndJ P fn R J b cs) {tm : Array Value} {f : Fr} {A : World} {D : Nat} (ha : FEq n { tmps := tm, defers := [] } f) (hD : A.heap[D]? = some (.deferred (some [])))
    (hR : ∃ v, resV P fn f (A.putObj D (.deferred none)) v ∧ R v (A.putObj D (.deferred none))) (k : List Item) : J (G (ato b { tmps := tm, defers := [{ target := .collected D, args := #[] }] } (.code .ret :: k)) cs) A := by
  obtain ⟨c, cs0, rfl, hk⟩ := h.back
  obtain ⟨v, hv, hR⟩ := hR
  refine h.closed.move rfl (fun w => Vh h.ro) (h.closed.turn (s := Instr.takeDeferred D) (next := fun calls => G { ato b { tmps := tm, defers := calls } (.code .ret :: k) with mode := .returning } (c :: cs0)) (x := []) rfl (H2 D) hD
    (fun w x w' es hh => ⟨seen P b.fn es, ?_, fun e he => Go.Conc.mem_seen he⟩) (fun A1 h1 => run_takeDeferred h1) (h.closed.leave h.kind h.df rfl h.fnd (fun A1 hE => hv A1 hE _ ha.at_) (hk v _ hR) _))
  obtain ⟨e1, e2⟩ := Gk hh
  simp [G, stepG, unwind, ato, h.df, e1, e2, GStep.after]
def WpA [Comp] (P : Program) (n : Nat) (J : Goroutine → World → Prop) (b : Frame) (cs : List Frame) (k : List Item) (c : Code) (f : Fr) (A : World) : Prop := ∀ a, FEq n a f → J (G (ato b a (.code c :: k)) cs) A
theorem Ga (hE : EndJ P fn R J b cs) {k : List Item} {x y : Code} {f : Fr} {A : World} (h : Wpf P n (thn (WpA P n J b cs k y) (endQ P fn R)) x f A) : WpA P n J b cs k (.seq x y) f A := fun a ha => by
  refine hE.closed.move rfl (fun w => stepG_seq) (h J hE.closed b hE.early (.code y :: k) cs a ha fun e a' f' A' hf hQ => ?_)
  cases e with
  | normal => exact hQ a' hf
  | ret => exact fun k2 => hE.fin hf hQ k2
  | exit i => exact hQ.elim
  | goto l => exact hQ.elim
  | panic c => exact hQ.elim
  | outgrown => exact hQ.elim
theorem K6 (hE : EndJ P fn R J b cs) {k : List Item} {id : Nat} {l : List Oper} {y : Code} {f : Fr} {A : World} (h : WpO P n l.toArray (WpA P n J b cs k y) l f A) : WpA P n J b cs k (.seq (.region id l.toArray false) y) f A := Ga hE (Xs h)
theorem Sg (hE : EndJ P fn R J b cs) {k : List Item} {x y : Code} {f : Fr} {A : World} (h : WpA P n J b cs (.code y :: k) x f A) : WpA P n J b cs k (.seq x y) f A := fun a ha => hE.closed.move rfl (fun w => stepG_seq) (h a ha)
theorem Mp {k : List Item} {c : Code} {f : Fr} {A : World} (M : Fr → Prop) (h : M f) (hM : ∀ f, M f → WpA P n J b cs k c f A) : WpA P n J b cs k c f A := hM f h
theorem Ct {k : FuncId} {c : Code} {args : Array Value} {A : World} (hf : P.funcs[k]? = some fn) (hb : fn.body = some c) (hn : fn.ntmps = n) (hs : Nat.ble args.size n = true)
    (h : ∀ J b cs, EndJ P fn R J b cs → WpA P n J b cs [] c (f0 args) A) : CallsR P k args A R := fun J hJ cf cs hk => by
  have hs' : args.size ≤ n := by simpa [Nat.ble_eq] using hs
  rw [Go.Conc.enter_at args hf hb, ← Hl (b := Go.Conc.base k) rfl rfl]
  refine h J (Go.Conc.base k) (cf :: cs) ⟨hJ, hf, rfl, rfl, rfl, cf, cs, rfl, hk⟩ _ ⟨rfl, by simp [hn]; omega, fun i => ?_⟩
  simp only [f0, Uo, Array.getD_eq_getD_getElem?, Array.getElem?_toList]
  by_cases hi : i < args.size
  · rw [Array.getElem?_append_left hi]
  · rw [Array.getElem?_append_right (by omega), Array.getElem?_eq_none (by omega : args.size ≤ i)]
    by_cases h2 : i - args.size < fn.ntmps - args.size
    · simp [h2]
    · rw [Array.getElem?_eq_none (by simp; omega)]
theorem E9 {f : Fr} {A : World} {v : Value} (hv : resV P fn f A v) (hR : R v A) : endQ P fn R .ret f A := ⟨v, hv, hR⟩
theorem Cw (hE : EndJ P fn R J b cs) {k : List Item} {id : Nat} {a : Act} {fT : Fr} {t B : Nat} {x y : Operand} {T : TypeId} {cs0 cs' : Array Value} {v : Value} {W : World} {ty : TypeId} {pos : String} {aft : Array Edge}
    (he : a.eval = ev fT) (ht : oneTy P t = true) (hx : ev fT x = .pointer (some ⟨B, 0, none⟩)) (hy : ev fT y = v) (h1 : v.oneCell' = true) (hb : Blk W B T cs0) (ho : 0 < cs0.size) (hcs : cs0.setIfInBounds 0 v = cs')
    (h : ∀ W', SetB W W' B T cs' → J (G (ato b a (.code .ret :: k)) cs) W') : J (G (ato b a (.code (.seq (.region id #[⟨none, .store t x y, ty, pos, aft, none⟩] false) .ret) :: k)) cs) W := by
  refine hE.closed.move rfl (fun w => stepG_seq) (hE.closed.move rfl (fun w => stepG_region) ?_)
  show J (G (ato b a (.inRegion #[⟨none, .store t x y, ty, pos, aft, none⟩] [0] :: .code .ret :: k)) cs) W
  refine OpG.run (o := ⟨none, .store t x y, ty, pos, aft, none⟩) (K := fun a' A' => a' = a ∧ SetB W A' B T cs') (Or.inl ⟨by simp [Region.wanted], Or.inl ⟨by rw [he]; exact qu (Ux _ _ _), fun A1 hX => ⟨.skip, undef, A1.setRow B cs', ?_, Or.inr ⟨rfl, rfl⟩, rfl, SetB.of hX (J6 (hX.blk hb) cs')⟩⟩⟩) hE.closed hE.early rfl fun a' A' ⟨e, hS⟩ => ?_
  · rw [he]
    simp [execOp, hx, hy, H6 ht h1 (hX.blk hb) ho, hcs]
  · subst e
    exact hE.closed.move rfl (fun w => stepG_region_end) (h A' hS)
end
end Go.Dw.J
end
section
namespace Go.Dw.J
open Go.RowKit Go.Dw Go.Proofs
set_option linter.unusedSectionVars false
set_option maxRecDepth 100000
set_option maxHeartbeats 4000000
set_option linter.unusedSimpArgs false
set_option linter.unusedVariables false
theorem Zg : goFn Try.prog 111 = true := by kernel_rfl
theorem Xaz : goFn Try.prog 71 = true := by kernel_rfl
theorem Xa0 : goFn Try.prog 72 = true := by kernel_rfl
theorem Kj : oneTy Try.prog 23 = true := by kernel_rfl
theorem Xbs : zeroTy Try.prog 4 = some (.bool false) := by kernel_rfl
theorem Pp [Comp] (w : World) (ms : List MTh) (a : Option Addr) (c : Nat) : CallsR Try.prog 72 #[.slice a ms.length c] w (fun v w' => ∃ B : Nat, v = .func (.func 111) #[] #[.pointer (some ⟨B, 0, none⟩)] ∧ w.heap.size ≤ B ∧ Blk w' B 23 #[.slice a ms.length c] ∧ w.grownBy w' none) := by
 refine Xl (n := 4) Try.func72 rfl Try.ntmps72 rfl ?_
 have hb0 := World.grownBy.refl w none
 refine Xa ?_
 refine wpo_box (v := .slice a ms.length c) (cs := #[.slice a ms.length c]) rfl rfl rfl ?_
 intro B101 w102 hN103
 have hlB101 := Xv hN103 hb0
 have hb104 := low0 hb0 hN103.grw
 refine wpo_assign (v := .nilFunc) rfl rfl ?_
 refine wpo_nil ?_
 refine Xa ?_
 refine wpo_makeFunc (vs := [.pointer (some ⟨B101, 0, none⟩)]) (Xc rfl Xg) rfl ?_
 refine wpo_assign (v := .func (.func 111) #[] #[.pointer (some ⟨B101, 0, none⟩)]) rfl rfl ?_
 refine wpo_nil ?_
 refine Xk ?_
 refine ⟨.func (.func 111) #[] #[.pointer (some ⟨B101, 0, none⟩)], res1 rfl rfl, B101, rfl, hlB101, hN103.blk, hb104⟩
theorem Nx [Comp] (w : World) (B : Nat) (ms : List MTh) (a : Option Addr) (c : Nat) (ht : TabAt w a ms) (hlen : TabLen ms) (hn : ms.length ≤ 1048576) (hB : Blk w B 23 #[.slice a ms.length c]) :
    SeqStops Try.prog 111 #[.pointer (some ⟨B, 0, none⟩)] (fun x : Rt => #[.agg x.cells.toArray]) (Below w.heap.size) (fun xs => xs = allR ms) (fun pre => pre <+: allR ms) (allR ms).length w := by
 intro l J Jx W hW hJ hJx hY h0
 have hb0 := gob hW
 show CallsR Try.prog 111 #[.func (.yield l) #[] #[], .pointer (some ⟨B, 0, none⟩)] W _
 refine Xl (n := 26) (R := fun v w' => (∃ xs, xs = allR ms ∧ J xs w') ∨ (∃ pre, pre <+: allR ms ∧ Jx pre w')) Try.func111 rfl Try.ntmps111 rfl ?_
 refine Xa ?_
 refine wpo_load1 (v := .slice a ms.length c) Kj rfl ((hB.grown0 hb0).cell rfl) rfl ?_
 refine wpo_len (by kernel_rfl) rfl rfl ?_
 refine wpo_move (v := .int .i64 0) rfl rfl ?_
 refine wpo_nil ?_
 refine Xu ?_
 refine Yf (fun mm f' w' => ∃ (k : Nat), mm = ms.length - k ∧ k ≤ ms.length ∧ J (allR (ms.take k)) w' ∧ f' 9 = .int .i64 (k : Int) ∧ f' 0 = .func (.yield l) #[] #[] ∧ f' 7 = .slice a ms.length c ∧ f' 8 = .int .i64 (ms.length : Int) ∧ w.grownBy w' none) (ms.length - 0) ⟨0, rfl, (Nat.zero_le _), h0, rfl, rfl, rfl, rfl, hb0⟩ ?_
 rintro mm f101 w102 ⟨k, hm104, hk, hJk, e105, e106, e107, e108, hb103⟩
 refine Xa ?_
 refine wpo_lss (q := decide ((k : Int) < (ms.length : Int))) e105 e108 rfl rfl ?_
 refine wpo_nil ?_
 refine Xh ?_
 refine Xp rfl (fun h109 => ?_) (fun h109 => ?_)
 ·
  have h110 := of_decide_eq_true h109
  refine Xm ?_
  refine Xo ?_
  refine Xh ?_
  refine Xu ?_
  refine Xa ?_
  obtain ⟨b113, q114, o115, ha116, ho117, hr118⟩ := SlAt.at (TabAt.low ht hb103).1 (Yc (Xx (show k < ms.length by omega)))
  have hle119 := TabLen.at hlen (Xx (show k < ms.length by omega))
  refine Xz Jf e107 e105 ha116 ho117 (by omega) (by omega) rfl ?_
  refine wpo_loadn (vs := [.int .i64 ((mAt ms k).t.kind), .int .i64 ((mAt ms k).t.lab.s), .int .i64 ((mAt ms k).t.lab.v), .int .i64 ((mAt ms k).t.ve), .int .i64 ((mAt ms k).t.num), .slice ((mAt ms k).sa) ((mAt ms k).t.slots.length) ((mAt ms k).sc), .slice ((mAt ms k).qa) ((mAt ms k).t.queue.length) ((mAt ms k).qc), .int .i64 ((mAt ms k).t.to)]) X5 rfl rfl (Yq hr118 0 8 rfl) rfl ?_
  refine wpo_alloc (cs := #[.int .i64 0, .int .i64 0, .int .i64 0, .int .i64 0, .int .i64 0, .slice none 0 0, .slice none 0 0, .int .i64 0]) Jd rfl rfl ?_
  intro B120 w121 hN122
  have hlB120 := Xv hN122 hb103
  have hb123 := low0 hb103 hN122.grw
  refine wpo_storen (vs := [.int .i64 ((mAt ms k).t.kind), .int .i64 ((mAt ms k).t.lab.s), .int .i64 ((mAt ms k).t.lab.v), .int .i64 ((mAt ms k).t.ve), .int .i64 ((mAt ms k).t.num), .slice ((mAt ms k).sa) ((mAt ms k).t.slots.length) ((mAt ms k).sc), .slice ((mAt ms k).qa) ((mAt ms k).t.queue.length) ((mAt ms k).qc), .int .i64 ((mAt ms k).t.to)]) (cs' := #[.int .i64 ((mAt ms k).t.kind), .int .i64 ((mAt ms k).t.lab.s), .int .i64 ((mAt ms k).t.lab.v), .int .i64 ((mAt ms k).t.ve), .int .i64 ((mAt ms k).t.num), .slice ((mAt ms k).sa) ((mAt ms k).t.slots.length) ((mAt ms k).sc), .slice ((mAt ms k).qa) ((mAt ms k).t.queue.length) ((mAt ms k).qc), .int .i64 ((mAt ms k).t.to)]) X5 rfl rfl rfl (by simp [Value.oneCell']) hN122.blk (Nat.le_of_ble_eq_true rfl) rfl ?_
  intro w124 hS125
  have hb126 := low1 hb123 hS125.grw (by omega)
  refine wpo_nil ?_
  refine Xa ?_
  refine wpo_fieldAddr (o' := 5) Y7 rfl rfl rfl ?_
  refine wpo_load1 (v := .slice ((mAt ms k).sa) ((mAt ms k).t.slots.length) ((mAt ms k).sc)) Jl rfl (hS125.blk.cell rfl) rfl ?_
  refine wpo_len (by kernel_rfl) rfl rfl ?_
  refine wpo_move (v := .int .i64 0) rfl rfl ?_
  refine wpo_nil ?_
  refine Xu ?_
  refine Yf (fun mm f' w' => ∃ (j : Nat), mm = (mAt ms k).t.slots.length - j ∧ j ≤ (mAt ms k).t.slots.length ∧ J (preR ms k j) w' ∧ f' 16 = .int .i64 (j : Int) ∧ f' 0 = .func (.yield l) #[] #[] ∧ f' 7 = .slice a ms.length c ∧ f' 8 = .int .i64 (ms.length : Int) ∧ f' 9 = .int .i64 (k : Int) ∧ f' 14 = .slice ((mAt ms k).sa) ((mAt ms k).t.slots.length) ((mAt ms k).sc) ∧ f' 15 = .int .i64 ((mAt ms k).t.slots.length : Int) ∧ w.grownBy w' none) ((mAt ms k).t.slots.length - 0) ⟨0, rfl, (Nat.zero_le _), (by rw [Bg]; exact (hJ _ _ _ none hJk (low1 hN122.grw hS125.grw (Nat.le_trans ((World.grownBy.refl _ none)).size hN122.ge)) (fun r e => by cases e))), rfl, e106, e107, e108, e105, rfl, rfl, hb126⟩ ?_
  rintro mm f127 w128 ⟨j, hm130, hj, hJj, e131, e132, e133, e134, e135, e136, e137, hb129⟩
  refine Xa ?_
  refine wpo_lss (q := decide ((j : Int) < ((mAt ms k).t.slots.length : Int))) e131 e137 rfl rfl ?_
  refine wpo_nil ?_
  refine Xh ?_
  refine Xp rfl (fun h138 => ?_) (fun h138 => ?_)
  ·
   have h139 := of_decide_eq_true h138
   refine Xm ?_
   refine Xo ?_
   refine Xh ?_
   refine Xu ?_
   refine Xa ?_
   obtain ⟨b142, q143, o144, ha145, ho146, hr147⟩ := SlAt.at (TabAt.th (TabAt.low ht hb129) (Xx (show k < ms.length by omega))).1 (Yc (K8 (show j < (mAt ms k).t.slots.length by omega)))
   refine Xz Wo e136 e131 ha145 ho146 (by omega) (by omega) rfl ?_
   refine wpo_loadn (vs := [.int .i64 ((rAt (mAt ms k).t.slots j).th), .int .i64 ((rAt (mAt ms k).t.slots j).ve), .bool ((rAt (mAt ms k).t.slots j).rd), .bool ((rAt (mAt ms k).t.slots j).wr), .bool ((rAt (mAt ms k).t.slots j).wk)]) Js rfl rfl (Yq hr147 0 5 rfl) rfl ?_
   refine wpo_alloc (cs := #[.int .i64 0, .int .i64 0, .bool false, .bool false, .bool false]) Nb rfl rfl ?_
   intro B148 w149 hN150
   have hlB148 := Xv hN150 hb129
   have hb151 := low0 hb129 hN150.grw
   refine wpo_storen (vs := [.int .i64 ((rAt (mAt ms k).t.slots j).th), .int .i64 ((rAt (mAt ms k).t.slots j).ve), .bool ((rAt (mAt ms k).t.slots j).rd), .bool ((rAt (mAt ms k).t.slots j).wr), .bool ((rAt (mAt ms k).t.slots j).wk)]) (cs' := #[.int .i64 ((rAt (mAt ms k).t.slots j).th), .int .i64 ((rAt (mAt ms k).t.slots j).ve), .bool ((rAt (mAt ms k).t.slots j).rd), .bool ((rAt (mAt ms k).t.slots j).wr), .bool ((rAt (mAt ms k).t.slots j).wk)]) Js rfl rfl rfl (by simp [Value.oneCell']) hN150.blk (Nat.le_of_ble_eq_true rfl) rfl ?_
   intro w152 hS153
   have hb154 := low1 hb151 hS153.grw (by omega)
   refine wpo_nil ?_
   refine Xa ?_
   refine wpo_move (v := .func (.yield l) #[] #[]) e132 rfl ?_
   refine wpo_loadn (vs := [.int .i64 ((rAt (mAt ms k).t.slots j).th), .int .i64 ((rAt (mAt ms k).t.slots j).ve), .bool ((rAt (mAt ms k).t.slots j).rd), .bool ((rAt (mAt ms k).t.slots j).wr), .bool ((rAt (mAt ms k).t.slots j).wk)]) Js rfl rfl (hS153.blk.rangeL 0 5 rfl) rfl ?_
   refine Cn rfl (vs := [.agg #[.int .i64 ((rAt (mAt ms k).t.slots j).th), .int .i64 ((rAt (mAt ms k).t.slots j).ve), .bool ((rAt (mAt ms k).t.slots j).rd), .bool ((rAt (mAt ms k).t.slots j).wr), .bool ((rAt (mAt ms k).t.slots j).wk)]]) (Xc rfl Xg) rfl (hY (preR ms k j) _ _ (hJ _ _ _ none hJj (low1 hN150.grw hS153.grw (Nat.le_trans ((World.grownBy.refl _ none)).size hN150.ge)) (fun r e => by cases e)) (Fv (by omega) (by omega))) ?_
   rintro _ w155 (⟨rfl, hJ157, hg156⟩ | ⟨rfl, hJx158⟩)
   ·
    have hb159 := P5 hb154 hg156
    refine wpo_not (b' := false) rfl rfl rfl ?_
    refine wpo_nil ?_
    refine X8 rfl rfl ?_
    refine Xm ?_
    refine Je ?_
    refine Xo ?_
    refine Xs ?_
    refine wpo_add (c := (j : Int) + 1) e131 rfl (by omega) (by omega) (by omega) rfl ?_
    refine wpo_move (v := .int .i64 ((j : Int) + 1)) rfl rfl ?_
    refine wpo_nil ?_
    refine Xo ?_
    exact ⟨(mAt ms k).t.slots.length - (j + 1), by omega, (j + 1), rfl, (by omega), (by rw [← Lw (by omega)]; exact hJ157), rfl, e132, e133, e134, e135, e136, e137, hb159⟩
   ·
    refine wpo_not (b' := true) rfl rfl rfl ?_
    refine wpo_nil ?_
    refine Yb rfl rfl ?_
    refine Xk ?_
    refine Y4 ?_
    refine Xy ?_
    refine Xy ?_
    refine Y4 ?_
    refine Y4 ?_
    refine Xy ?_
    refine Xy ?_
    refine Y4 ?_
    refine ⟨.tuple #[], res0 rfl, Or.inr ⟨_, Rj (k := k) (j := j + 1) (by omega), ?_⟩⟩
    rw [← Lw (k := k) (j := j) (by omega)]
    exact hJx158
  ·
   have h160 := of_decide_eq_false h138
   refine Yo ?_
   refine Yz ?_
   refine Yz ?_
   refine Jn ?_
   refine Je ?_
   refine Xo ?_
   refine Xs ?_
   refine wpo_add (c := (k : Int) + 1) e135 rfl (by omega) (by omega) (by omega) rfl ?_
   refine wpo_move (v := .int .i64 ((k : Int) + 1)) rfl rfl ?_
   refine wpo_nil ?_
   refine Xo ?_
   exact ⟨ms.length - (k + 1), by omega, (k + 1), rfl, (by omega), (by rw [← Bf (j := j) (by omega) (by omega)]; exact hJj), rfl, e132, e133, e134, hb129⟩
 ·
  have h161 := of_decide_eq_false h109
  refine Yo ?_
  refine Yz ?_
  refine Yz ?_
  refine Jn ?_
  refine ⟨.tuple #[], res0 rfl, Or.inl ⟨_, rfl, ?_⟩⟩
  have kk := hJk
  rw [Ms (by omega)] at kk
  exact kk
theorem Gc [Comp] (w : World) (ms : List MTh) (a : Option Addr) (c : Nat) (ht : TabAt w a ms) (hlen : TabLen ms) (hn : ms.length ≤ 1048576) : CallsR Try.prog 37 #[.slice a ms.length c] w (fun v w' => v = .bool (tableOk (tabT ms)) ∧ w.grownBy w' none) := by
 refine Ct (n := 53) Try.func37 rfl Try.ntmps37 rfl ?_
 intro J b cs hEnd
 have hb0 := World.grownBy.refl w none
 refine K6 hEnd ?_
 refine wpo_box (v := .slice a ms.length c) (cs := #[.slice a ms.length c]) rfl rfl rfl ?_
 intro B101 w102 hN103
 have hlB101 := Xv hN103 hb0
 have hb104 := low0 hb0 hN103.grw
 refine wpo_alloc (cs := #[.bool false]) Xbs rfl rfl ?_
 intro B105 w106 hN107
 have hlB105 := Xv hN107 hb104
 have lt_B101_B105 := Xr hN107 (hN103.blk).lt
 have hb108 := low0 hb104 hN107.grw
 refine wpo_nil ?_
 refine Ga hEnd ?_
 refine Xa ?_
 have k109 := (hN103.blk.grown0 hN107.grw)
 refine wpo_load1 (v := .slice a ms.length c) Kj rfl (k109.cell rfl) rfl ?_
 refine wpo_len (by kernel_rfl) rfl rfl ?_
 refine Xi (vs := [.int .i64 (ms.length : Int), .int .i64 1, .int .i64 8]) V6 (Xc rfl (Xc rfl (Xc rfl Xg))) rfl (Jc (ms.length : Int) 1 8 _) ?_
 rintro _ w110 ⟨rfl, hg111⟩
 have hb112 := low0 hb108 hg111
 refine wpo_not (b' := !inR (ms.length : Int) 1 8) rfl rfl rfl ?_
 refine wpo_nil ?_
 refine Xp rfl (fun h113 => ?_) (fun h113 => ?_)
 ·
  have h114 := Qi h113
  refine Xa ?_
  have k115 := (hN107.blk.grown0 hg111)
  refine wpo_store1 (v := .bool false) (cs' := #[.bool false]) J9 rfl rfl rfl k115 (Nat.le_of_ble_eq_true rfl) rfl ?_
  intro w116 hS117
  have hb118 := low1 hb112 hS117.grw (by omega)
  refine wpo_nil ?_
  refine Xk ?_
  refine Xy ?_
  exact E9 (resC rfl (resCell_mk1 J9 rfl (hS117.blk.cell rfl))) ⟨congrArg Value.bool (Ee h114).symm, hb118⟩
 ·
  have h119 := Y5 h113
  have hr120 := Q9.1 h119
  refine Xm ?_
  refine Xo ?_
  refine Ga hEnd ?_
  refine Xa ?_
  have k121 := (k109.grown0 hg111)
  refine wpo_load1 (v := .slice a ms.length c) Kj rfl (k121.cell rfl) rfl ?_
  refine wpo_len (by kernel_rfl) rfl rfl ?_
  refine wpo_move (v := .int .i64 0) rfl rfl ?_
  refine wpo_nil ?_
  refine Xu ?_
  have k122 := (hN107.blk.grown0 hg111)
  refine Yf (fun mm f' w' => ∃ (k : Nat), mm = ms.length - k ∧ k ≤ ms.length ∧ (((tabT ms).take k).all (headOk (tabT ms))) = true ∧ f' 12 = .int .i64 (k : Int) ∧ f' 0 = .slice a ms.length c ∧ f' 1 = .pointer (some ⟨B101, 0, none⟩) ∧ f' 2 = .pointer (some ⟨B105, 0, none⟩) ∧ f' 10 = .slice a ms.length c ∧ f' 11 = .int .i64 (ms.length : Int) ∧ w.grownBy w' none ∧ Blk w' B101 23 #[.slice a ms.length c] ∧ Blk w' B105 4 #[.bool false]) (ms.length - 0) ⟨0, rfl, (Nat.zero_le _), rfl, rfl, rfl, rfl, rfl, rfl, rfl, hb112, k121, k122⟩ ?_
  rintro mm f123 w124 ⟨k, hm126, hk, hall, e127, e128, e129, e130, e131, e132, hb125, k133, k134⟩
  refine Xa ?_
  refine wpo_lss (q := decide ((k : Int) < (ms.length : Int))) e127 e132 rfl rfl ?_
  refine wpo_nil ?_
  refine Xh ?_
  refine Xp rfl (fun h135 => ?_) (fun h135 => ?_)
  ·
   have h136 := of_decide_eq_true h135
   refine Xm ?_
   refine Xo ?_
   refine Xh ?_
   refine Xu ?_
   refine Xa ?_
   obtain ⟨b139, q140, o141, ha142, ho143, hr144⟩ := SlAt.at (TabAt.low ht hb125).1 (Yc (Xx (show k < ms.length by omega)))
   have hle145 := TabLen.at hlen (Xx (show k < ms.length by omega))
   refine Xz Jf e131 e127 ha142 ho143 (by omega) (by omega) rfl ?_
   refine wpo_loadn (vs := [.int .i64 ((mAt ms k).t.kind), .int .i64 ((mAt ms k).t.lab.s), .int .i64 ((mAt ms k).t.lab.v), .int .i64 ((mAt ms k).t.ve), .int .i64 ((mAt ms k).t.num), .slice ((mAt ms k).sa) ((mAt ms k).t.slots.length) ((mAt ms k).sc), .slice ((mAt ms k).qa) ((mAt ms k).t.queue.length) ((mAt ms k).qc), .int .i64 ((mAt ms k).t.to)]) X5 rfl rfl (Yq hr144 0 8 rfl) rfl ?_
   refine wpo_alloc (cs := #[.int .i64 0, .int .i64 0, .int .i64 0, .int .i64 0, .int .i64 0, .slice none 0 0, .slice none 0 0, .int .i64 0]) Jd rfl rfl ?_
   intro B146 w147 hN148
   have hlB146 := Xv hN148 hb125
   have lt_B101_B146 := Xr hN148 (k133).lt
   have lt_B105_B146 := Xr hN148 (k134).lt
   have hb149 := low0 hb125 hN148.grw
   refine wpo_storen (vs := [.int .i64 ((mAt ms k).t.kind), .int .i64 ((mAt ms k).t.lab.s), .int .i64 ((mAt ms k).t.lab.v), .int .i64 ((mAt ms k).t.ve), .int .i64 ((mAt ms k).t.num), .slice ((mAt ms k).sa) ((mAt ms k).t.slots.length) ((mAt ms k).sc), .slice ((mAt ms k).qa) ((mAt ms k).t.queue.length) ((mAt ms k).qc), .int .i64 ((mAt ms k).t.to)]) (cs' := #[.int .i64 ((mAt ms k).t.kind), .int .i64 ((mAt ms k).t.lab.s), .int .i64 ((mAt ms k).t.lab.v), .int .i64 ((mAt ms k).t.ve), .int .i64 ((mAt ms k).t.num), .slice ((mAt ms k).sa) ((mAt ms k).t.slots.length) ((mAt ms k).sc), .slice ((mAt ms k).qa) ((mAt ms k).t.queue.length) ((mAt ms k).qc), .int .i64 ((mAt ms k).t.to)]) X5 rfl rfl rfl (by simp [Value.oneCell']) hN148.blk (Nat.le_of_ble_eq_true rfl) rfl ?_
   intro w150 hS151
   have hb152 := low1 hb149 hS151.grw (by omega)
   refine wpo_nil ?_
   refine Xh ?_
   refine Xa ?_
   refine wpo_loadn (vs := [.int .i64 ((mAt ms k).t.kind), .int .i64 ((mAt ms k).t.lab.s), .int .i64 ((mAt ms k).t.lab.v), .int .i64 ((mAt ms k).t.ve), .int .i64 ((mAt ms k).t.num), .slice ((mAt ms k).sa) ((mAt ms k).t.slots.length) ((mAt ms k).sc), .slice ((mAt ms k).qa) ((mAt ms k).t.queue.length) ((mAt ms k).qc), .int .i64 ((mAt ms k).t.to)]) X5 rfl rfl (hS151.blk.rangeL 0 8 rfl) rfl ?_
   refine Xi (vs := [.agg #[.int .i64 ((mAt ms k).t.kind), .int .i64 ((mAt ms k).t.lab.s), .int .i64 ((mAt ms k).t.lab.v), .int .i64 ((mAt ms k).t.ve), .int .i64 ((mAt ms k).t.num), .slice ((mAt ms k).sa) ((mAt ms k).t.slots.length) ((mAt ms k).sc), .slice ((mAt ms k).qa) ((mAt ms k).t.queue.length) ((mAt ms k).qc), .int .i64 ((mAt ms k).t.to)]]) P3 (Xc rfl Xg) rfl (Ve (mAt ms k) _ (TabAt.th (TabAt.low ht hb152) (Xx (show k < ms.length by omega))).1 (TabAt.th (TabAt.low ht hb152) (Xx (show k < ms.length by omega))).2.1 (by first | omega | exact Nat.le_of_ble_eq_true rfl | (simp only [List.length_nil, List.length_cons, List.length_append, List.length_replicate]; omega)) (by first | omega | exact Nat.le_of_ble_eq_true rfl | (simp only [List.length_nil, List.length_cons, List.length_append, List.length_replicate]; omega))) ?_
   rintro _ w153 ⟨rfl, hg154⟩
   have hb155 := low0 hb152 hg154
   refine wpo_not (b' := !thingOk (mAt ms k).t) rfl rfl rfl ?_
   refine wpo_nil ?_
   refine Xp rfl (fun h156 => ?_) (fun h156 => ?_)
   ·
    have h157 := Qi h156
    refine Xa ?_
    have k158 := (((k134.grown0 hN148.grw).gn hS151.grw).grown0 hg154)
    refine wpo_store1 (v := .bool false) (cs' := #[.bool false]) J9 e130 rfl rfl k158 (Nat.le_of_ble_eq_true rfl) rfl ?_
    intro w159 hS160
    have hb161 := low1 hb155 hS160.grw (by omega)
    refine wpo_nil ?_
    refine Xk ?_
    refine Xy ?_
    refine Y4 ?_
    refine Xy ?_
    refine Xy ?_
    refine Y4 ?_
    refine Xy ?_
    exact E9 (resC rfl (resCell_mk1 J9 e130 (hS160.blk.cell rfl))) ⟨congrArg Value.bool (Mm (k := k) (by omega) (by unfold headOk; rw [h157]; rfl)).symm, hb161⟩
   ·
    have h162 := Y5 h156
    refine Xm ?_
    refine Xo ?_
    refine Xt (fun f' w' => (f' 0 = .slice a ms.length c ∧ f' 1 = .pointer (some ⟨B101, 0, none⟩) ∧ f' 2 = .pointer (some ⟨B105, 0, none⟩) ∧ f' 10 = .slice a ms.length c ∧ f' 11 = .int .i64 (ms.length : Int) ∧ f' 12 = .int .i64 (k : Int) ∧ f' 28 = .bool ((decide ((mAt ms k).t.kind = 5)) && (!kindAt (tabT ms) ((mAt ms k).t.to) 1))) ∧ w153.grownBy w' none) ?_ ?_
    ·
     refine wpo_fieldAddr (o' := 0) Yg rfl rfl rfl ?_
     have k169 := (hS151.blk.grown0 hg154)
     refine wpo_load1 (v := .int .i64 ((mAt ms k).t.kind)) X1 rfl (k169.cell rfl) rfl ?_
     refine wpo_eql (q := decide ((mAt ms k).t.kind = 5)) rfl rfl rfl rfl ?_
     refine wpo_move (v := .bool (decide ((mAt ms k).t.kind = 5))) rfl rfl ?_
     rcases X2 (decide ((mAt ms k).t.kind = 5)) with h170 | h170
     ·
      have hgt171 := Hg h162 h170
      have h172 := of_decide_eq_true h170
      refine Xb rfl rfl rfl h170 ?_
      have k173 := (((k133.grown0 hN148.grw).gn hS151.grw).grown0 hg154)
      refine wpo_load1 (v := .slice a ms.length c) Kj e129 (k173.cell rfl) rfl ?_
      refine Xb rfl rfl rfl h170 ?_
      refine wpo_fieldAddr (o' := 7) Q1 rfl rfl rfl ?_
      refine Xb rfl rfl rfl h170 ?_
      refine wpo_load1 (v := .int .i64 ((mAt ms k).t.to)) X1 rfl (k169.cell rfl) rfl ?_
      refine Xb rfl rfl rfl h170 ?_
      refine Xi (vs := [.slice a ms.length c, .int .i64 ((mAt ms k).t.to), .int .i64 1]) Xaz (Xc rfl (Xc rfl (Xc rfl Xg))) rfl (Dg ((mAt ms k).t.to) 1 (by omega) _ ms _ _ (TabAt.low ht hb155) hlen (by omega)) ?_
      rintro _ w174 ⟨rfl, hg175⟩
      have hb176 := low0 hb155 hg175
      refine Xb rfl rfl rfl h170 ?_
      refine wpo_not (b' := !kindAt (tabT ms) ((mAt ms k).t.to) 1) rfl rfl rfl ?_
      refine wpo_pickt (v := .bool (!kindAt (tabT ms) ((mAt ms k).t.to) 1)) rfl h170 rfl rfl ?_
      exact wpo_nil ⟨⟨e128, e129, e130, e131, e132, e127, (congrArg Value.bool (by first | (simp only [h113, h119, h135, h156, h162, h170, b0, b1, b2, b3, b4, b5, b6, b7, b8, b9]; done) | simp [h113, h119, h135, h156, h162, h170]))⟩, hg175⟩
     ·
      have h177 := of_decide_eq_false h170
      iterate 5 refine Xe rfl rfl rfl h170 rfl ?_
      refine wpo_pickf (v := .bool false) rfl h170 rfl rfl ?_
      exact wpo_nil ⟨⟨e128, e129, e130, e131, e132, e127, (congrArg Value.bool (by first | (simp only [h113, h119, h135, h156, h162, h170, b0, b1, b2, b3, b4, b5, b6, b7, b8, b9]; done) | simp [h113, h119, h135, h156, h162, h170]))⟩, (World.grownBy.refl _ _)⟩
    ·
     rintro f178 w179 ⟨⟨e180, e181, e182, e183, e184, e185, e186⟩, hg187⟩
     have hb188 := low0 hb155 hg187
     refine Xp e186 (fun h189 => ?_) (fun h189 => ?_)
     ·
      have h190 := Iv h189
      have hgt191 := Hg h162 h190
      have h192 := of_decide_eq_true h190
      have h193 := Iw h189
      have h194 := Qi h193
      refine Xa ?_
      have k195 := ((((k134.grown0 hN148.grw).gn hS151.grw).grown0 hg154).grown0 hg187)
      refine wpo_store1 (v := .bool false) (cs' := #[.bool false]) J9 e182 rfl rfl k195 (Nat.le_of_ble_eq_true rfl) rfl ?_
      intro w196 hS197
      have hb198 := low1 hb188 hS197.grw (by omega)
      refine wpo_nil ?_
      refine Xk ?_
      refine Y4 ?_
      refine Xy ?_
      refine Xy ?_
      refine Y4 ?_
      refine Xy ?_
      exact E9 (resC rfl (resCell_mk1 J9 e182 (hS197.blk.cell rfl))) ⟨congrArg Value.bool (Mm (k := k) (by omega) (by unfold headOk; rw [Qi (Da.symm.trans h189), Bool.and_false])).symm, hb198⟩
     ·
      refine Xm ?_
      refine Je ?_
      refine Xo ?_
      refine Xs ?_
      refine wpo_add (c := (k : Int) + 1) e185 rfl (by omega) (by omega) (by omega) rfl ?_
      refine wpo_move (v := .int .i64 ((k : Int) + 1)) rfl rfl ?_
      refine wpo_nil ?_
      refine Xo ?_
      have k199 := ((((k133.grown0 hN148.grw).gn hS151.grw).grown0 hg154).grown0 hg187)
      have k200 := ((((k134.grown0 hN148.grw).gn hS151.grw).grown0 hg154).grown0 hg187)
      exact ⟨ms.length - (k + 1), by omega, (k + 1), rfl, (by omega), (Q8 (p := headOk (tabT ms)) hall (K5 (by omega)) (by unfold headOk; rw [h162, Y5 (Da.symm.trans h189)]; rfl)), rfl, e180, e181, e182, e183, e184, hb188, k199, k200⟩
  ·
   have h201 := of_decide_eq_false h135
   refine Yo ?_
   refine Yz ?_
   refine Yz ?_
   refine Jn ?_
   refine Xo ?_
   refine Sg hEnd ?_
   refine K6 hEnd ?_
   refine wpo_load1 (v := .slice a ms.length c) Kj e129 (k133.cell rfl) rfl ?_
   refine Xi (vs := [.slice a ms.length c]) Xa0 (Xc rfl Xg) rfl (Pp _ ms _ _) ?_
   rintro _ w206 ⟨B202, rfl, hge203, k204, hg205⟩
   have hb207 := low0 hb125 hg205
   have hlB202 := Nat.le_trans hb125.size hge203
   have lt_B101_B202 := Nat.lt_of_lt_of_le (k133).lt hge203
   have lt_B105_B202 := Nat.lt_of_lt_of_le (k134).lt hge203
   refine wpo_nil ?_
   have k208 := (k133.grown0 hg205)
   have k209 := (k134.grown0 hg205)
   refine Mp (fun f' => f' 1 = .pointer (some ⟨B101, 0, none⟩) ∧ f' 2 = .pointer (some ⟨B105, 0, none⟩) ∧ f' 31 = .func (.func 111) #[] #[.pointer (some ⟨B202, 0, none⟩)]) ⟨e129, e130, rfl⟩ ?_
   rintro fT ⟨e1, e2, e3⟩ a0 ha
   obtain ⟨tm, df⟩ := a0
   obtain rfl : df = [] := ha.defers
   have hlb2 : B105 < w206.heap.size := (k209).lt
   refine hEnd.closed.move rfl (fun _ => Gy) ?_
   refine Bv hEnd.closed hEnd.early hEnd.ro (n := 53) (encs := fun x : Rt => .agg x.cells.toArray) ha e3 Zg rfl (Nx w206 B202 ms a c (TabAt.low ht hb207) hlen hn k204) (Below.refl _ _) (Nat.le_refl _) (fun pre W => w.grownBy W none ∧ Blk W B101 23 #[.slice a ms.length c] ∧ Blk W B105 4 #[.bool false] ∧ pre.all (rightTo (tabT ms)) = true ∧ w206.heap.size ≤ W.heap.size) (fun pre W => w.grownBy W none ∧ Blk W B105 4 #[.bool false] ∧ pre.all (rightTo (tabT ms)) = false) (fun s A B row hs hg hr => ⟨Lu hs.1 hg hb207.size hr, Ha hs.2.1 hg hr, Ha hs.2.2.1 hg hr, hs.2.2.2.1, Nat.le_trans hs.2.2.2.2 hg.size⟩) (fun s A B row hs hg hr => ⟨Lu hs.1 hg hb207.size hr, Ha hs.2.1 hg hr, hs.2.2⟩) ⟨hb207, k208, k209, rfl, Nat.le_refl _⟩ (fun x f' W => ∃ Bx : Nat, Blk W Bx 74 x.cells.toArray ∧ f' 5 = .pointer (some ⟨Bx, 0, none⟩) ∧ f' 1 = .pointer (some ⟨B101, 0, none⟩) ∧ f' 2 = .pointer (some ⟨B105, 0, none⟩)) (fun f' x A B row hs hg hr => by obtain ⟨Bx, h1, h2⟩ := hs; exact ⟨Bx, Ha h1 hg hr, h2⟩) ?_ ?_ ?_ ?_
   ·
    intro pre x W hlW hi
    refine Xs ?_
    refine wpo_alloc (cs := #[.int .i64 0, .int .i64 0, .bool false, .bool false, .bool false]) Nb rfl rfl ?_
    intro B210 w211 hN212
    have hlB210 := Xv hN212 hi.1
    have hb213 := low0 hi.1 hN212.grw
    refine wpo_storen (vs := [.int .i64 x.th, .int .i64 x.ve, .bool x.rd, .bool x.wr, .bool x.wk]) (cs' := #[.int .i64 x.th, .int .i64 x.ve, .bool x.rd, .bool x.wr, .bool x.wk]) Js rfl rfl rfl (by simp [Value.oneCell']) hN212.blk (Nat.le_of_ble_eq_true rfl) rfl ?_
    intro w214 hS215
    have hb216 := low1 hb213 hS215.grw (by omega)
    refine wpo_nil ?_
    exact ⟨rfl, (low1 hN212.grw hS215.grw (Nat.le_trans ((World.grownBy.refl _ none)).size hN212.ge)), B210, hS215.blk, rfl, e1, e2⟩
   ·
    rintro pre x f' W hlW hi ⟨Bx, hbx, h5, h1, h2⟩ hlt
    refine Wpf.mono (Q := (fun e f'' w' => (e = .normal ∧ W.grownBy w' none ∧ rightTo (tabT ms) x = true) ∨ (e = .ret ∧ W.grownBy w' (some B105) ∧ w.grownBy w' none ∧ Blk w' B105 4 #[.bool false] ∧ rightTo (tabT ms) x = false))) ?_ ?_
    ·
     refine Xu ?_
     refine Xh ?_
     refine Xa ?_
     refine wpo_fieldAddr (o' := 0) Qu h5 rfl rfl ?_
     refine wpo_load1 (v := .int .i64 x.th) X1 rfl (hbx.cell rfl) rfl ?_
     refine wpo_eql (q := decide (x.th = 0)) rfl rfl rfl rfl ?_
     refine wpo_nil ?_
     refine Xp rfl (fun h217 => ?_) (fun h217 => ?_)
     ·
      have h218 := of_decide_eq_true h217
      refine Yo ?_
      refine Yz ?_
      refine Jn ?_
      exact Or.inl ⟨rfl, (World.grownBy.refl _ _), B4 h217⟩
     ·
      have h219 := of_decide_eq_false h217
      refine Xm ?_
      refine Xo ?_
      refine Ui (fun f' w' => (f' 2 = .pointer (some ⟨B105, 0, none⟩) ∧ f' 52 = .bool ((!inR x.th 1 (ms.length : Int)) || (decide ((mAt ms ((x.th - 1).toNat)).t.ve < x.ve)))) ∧ W.grownBy w' none) ?_ ?_
      ·
       rcases X2 (!inR x.th 1 (ms.length : Int)) with h240 | h240
       ·
        have h241 := Qi h240
        refine Yx (m := 15) (vals := [(36, .slice a ms.length c), (37, .pointer (some ⟨Bx, 0, none⟩)), (38, .int .i64 x.th), (39, .bool (inR x.th 1 (ms.length : Int))), (40, .bool (!inR x.th 1 (ms.length : Int))), (41, .bool (!inR x.th 1 (ms.length : Int))), (42, undef), (43, undef), (44, undef), (45, undef), (46, undef), (47, undef), (48, undef), (49, undef), (50, undef)]) (fun w' => W.grownBy w' none) Qd (by kernel_rfl) (X4 _) ?_ ?_
        ·
         refine Xd rfl (fun w251 hi252 => ?_) ?_
         ·
          have hb253 := low0 hi.1 hi252
          have k254 := (hi.2.1.grown0 hi252)
          refine wpo_load1 (v := .slice a ms.length c) Kj h1 (k254.cell rfl) rfl ?_
          exact wpo_nil ⟨rfl, hi252⟩
         refine Xd rfl (fun w255 hi256 => ?_) ?_
         ·
          have hb257 := low0 hi.1 hi256
          refine wpo_fieldAddr (o' := 0) Qu h5 rfl rfl ?_
          exact wpo_nil ⟨rfl, hi256⟩
         refine Xd rfl (fun w258 hi259 => ?_) ?_
         ·
          have hb260 := low0 hi.1 hi259
          have k261 := (hbx.grown0 hi259)
          refine wpo_load1 (v := .int .i64 x.th) X1 rfl (k261.cell rfl) rfl ?_
          exact wpo_nil ⟨rfl, hi259⟩
         refine Xd rfl (fun w262 hi263 => ?_) ?_
         ·
          have hb264 := low0 hi.1 hi263
          refine Xi (vs := [.slice a ms.length c, .int .i64 x.th]) Dd (Xc rfl (Xc rfl Xg)) rfl (Vb x.th _ _ _ _) ?_
          rintro _ w265 ⟨rfl, hg266⟩
          have hb267 := low0 hb264 hg266
          exact wpo_nil ⟨rfl, (Xj hi263 hg266)⟩
         refine Xd rfl (fun w268 hi269 => ?_) ?_
         ·
          have hb270 := low0 hi.1 hi269
          refine wpo_not (b' := !inR x.th 1 (ms.length : Int)) rfl rfl rfl ?_
          exact wpo_nil ⟨rfl, hi269⟩
         refine Xd rfl (fun w271 hi272 => ?_) ?_
         ·
          have hb273 := low0 hi.1 hi272
          refine wpo_move (v := .bool (!inR x.th 1 (ms.length : Int))) rfl rfl ?_
          exact wpo_nil ⟨rfl, hi272⟩
         refine Xd rfl (fun w274 hi275 => ?_) ?_
         ·
          have hb276 := low0 hi.1 hi275
          refine Xe rfl rfl rfl h240 rfl ?_
          exact wpo_nil ⟨rfl, hi275⟩
         refine Xd rfl (fun w277 hi278 => ?_) ?_
         ·
          have hb279 := low0 hi.1 hi278
          refine Xe rfl rfl rfl h240 rfl ?_
          exact wpo_nil ⟨rfl, hi278⟩
         refine Xd rfl (fun w280 hi281 => ?_) ?_
         ·
          have hb282 := low0 hi.1 hi281
          refine Xe rfl rfl rfl h240 rfl ?_
          exact wpo_nil ⟨rfl, hi281⟩
         refine Xd rfl (fun w283 hi284 => ?_) ?_
         ·
          have hb285 := low0 hi.1 hi284
          refine Xe rfl rfl rfl h240 rfl ?_
          exact wpo_nil ⟨rfl, hi284⟩
         refine Xd rfl (fun w286 hi287 => ?_) ?_
         ·
          have hb288 := low0 hi.1 hi287
          refine Xe rfl rfl rfl h240 rfl ?_
          exact wpo_nil ⟨rfl, hi287⟩
         refine Xd rfl (fun w289 hi290 => ?_) ?_
         ·
          have hb291 := low0 hi.1 hi290
          refine Xe rfl rfl rfl h240 rfl ?_
          exact wpo_nil ⟨rfl, hi290⟩
         refine Xd rfl (fun w292 hi293 => ?_) ?_
         ·
          have hb294 := low0 hi.1 hi293
          refine Xe rfl rfl rfl h240 rfl ?_
          exact wpo_nil ⟨rfl, hi293⟩
         refine Xd rfl (fun w295 hi296 => ?_) ?_
         ·
          have hb297 := low0 hi.1 hi296
          refine Xe rfl rfl rfl h240 rfl ?_
          exact wpo_nil ⟨rfl, hi296⟩
         refine Xd rfl (fun w298 hi299 => ?_) ?_
         ·
          have hb300 := low0 hi.1 hi299
          refine Xe rfl rfl rfl h240 rfl ?_
          exact wpo_nil ⟨rfl, hi299⟩
         exact Qc
        ·
         intro w301 hi302
         have hb303 := low0 hi.1 hi302
         refine Xe rfl rfl rfl h240 rfl ?_
         refine wpo_pickt (v := .bool true) rfl h240 rfl rfl ?_
         exact wpo_nil (Xo ⟨⟨h2, (congrArg Value.bool (by first | (simp only [h217, h240, h241, b0, b1, b2, b3, b4, b5, b6, b7, b8, b9]; done) | simp [h217, h240, h241]))⟩, hi302⟩)
       ·
        have h304 := Y5 h240
        have hr305 := Q9.1 h304
        obtain ⟨b327, q328, o329, ha330, ho331, hr332⟩ := SlAt.at (TabAt.low ht hi.1).1 (Yc (Xx (show (x.th - 1).toNat < ms.length by omega)))
        have hle333 := TabLen.at hlen (Xx (show (x.th - 1).toNat < ms.length by omega))
        refine Yx (m := 15) (vals := [(36, .slice a ms.length c), (37, .pointer (some ⟨Bx, 0, none⟩)), (38, .int .i64 x.th), (39, .bool (inR x.th 1 (ms.length : Int))), (40, .bool (!inR x.th 1 (ms.length : Int))), (41, .bool (!inR x.th 1 (ms.length : Int))), (42, .pointer (some ⟨Bx, 1, none⟩)), (43, .int .i64 x.ve), (44, .slice a ms.length c), (45, .pointer (some ⟨Bx, 0, none⟩)), (46, .int .i64 x.th), (47, .int .i64 (x.th - 1)), (48, .pointer (some ⟨b327, o329, none⟩)), (49, .pointer (some ⟨b327, o329 + 3, none⟩)), (50, .int .i64 ((mAt ms ((x.th - 1).toNat)).t.ve))]) (fun w' => W.grownBy w' none) Qd (by kernel_rfl) (X4 _) ?_ ?_
        ·
         refine Xd rfl (fun w339 hi340 => ?_) ?_
         ·
          have hb341 := low0 hi.1 hi340
          have k342 := (hi.2.1.grown0 hi340)
          refine wpo_load1 (v := .slice a ms.length c) Kj h1 (k342.cell rfl) rfl ?_
          exact wpo_nil ⟨rfl, hi340⟩
         refine Xd rfl (fun w343 hi344 => ?_) ?_
         ·
          have hb345 := low0 hi.1 hi344
          refine wpo_fieldAddr (o' := 0) Qu h5 rfl rfl ?_
          exact wpo_nil ⟨rfl, hi344⟩
         refine Xd rfl (fun w346 hi347 => ?_) ?_
         ·
          have hb348 := low0 hi.1 hi347
          have k349 := (hbx.grown0 hi347)
          refine wpo_load1 (v := .int .i64 x.th) X1 rfl (k349.cell rfl) rfl ?_
          exact wpo_nil ⟨rfl, hi347⟩
         refine Xd rfl (fun w350 hi351 => ?_) ?_
         ·
          have hb352 := low0 hi.1 hi351
          refine Xi (vs := [.slice a ms.length c, .int .i64 x.th]) Dd (Xc rfl (Xc rfl Xg)) rfl (Vb x.th _ _ _ _) ?_
          rintro _ w353 ⟨rfl, hg354⟩
          have hb355 := low0 hb352 hg354
          exact wpo_nil ⟨rfl, (Xj hi351 hg354)⟩
         refine Xd rfl (fun w356 hi357 => ?_) ?_
         ·
          have hb358 := low0 hi.1 hi357
          refine wpo_not (b' := !inR x.th 1 (ms.length : Int)) rfl rfl rfl ?_
          exact wpo_nil ⟨rfl, hi357⟩
         refine Xd rfl (fun w359 hi360 => ?_) ?_
         ·
          have hb361 := low0 hi.1 hi360
          refine wpo_move (v := .bool (!inR x.th 1 (ms.length : Int))) rfl rfl ?_
          exact wpo_nil ⟨rfl, hi360⟩
         refine Xd rfl (fun w362 hi363 => ?_) ?_
         ·
          have hb364 := low0 hi.1 hi363
          refine Xb rfl rfl rfl h240 ?_
          refine wpo_fieldAddr (o' := 1) Kl h5 rfl rfl ?_
          exact wpo_nil ⟨rfl, hi363⟩
         refine Xd rfl (fun w365 hi366 => ?_) ?_
         ·
          have hb367 := low0 hi.1 hi366
          refine Xb rfl rfl rfl h240 ?_
          have k368 := (hbx.grown0 hi366)
          refine wpo_load1 (v := .int .i64 x.ve) X1 rfl (k368.cell rfl) rfl ?_
          exact wpo_nil ⟨rfl, hi366⟩
         refine Xd rfl (fun w369 hi370 => ?_) ?_
         ·
          have hb371 := low0 hi.1 hi370
          refine Xb rfl rfl rfl h240 ?_
          have k372 := (hi.2.1.grown0 hi370)
          refine wpo_load1 (v := .slice a ms.length c) Kj h1 (k372.cell rfl) rfl ?_
          exact wpo_nil ⟨rfl, hi370⟩
         refine Xd rfl (fun w373 hi374 => ?_) ?_
         ·
          have hb375 := low0 hi.1 hi374
          refine Xb rfl rfl rfl h240 ?_
          refine wpo_fieldAddr (o' := 0) Qu h5 rfl rfl ?_
          exact wpo_nil ⟨rfl, hi374⟩
         refine Xd rfl (fun w376 hi377 => ?_) ?_
         ·
          have hb378 := low0 hi.1 hi377
          refine Xb rfl rfl rfl h240 ?_
          have k379 := (hbx.grown0 hi377)
          refine wpo_load1 (v := .int .i64 x.th) X1 rfl (k379.cell rfl) rfl ?_
          exact wpo_nil ⟨rfl, hi377⟩
         refine Xd rfl (fun w380 hi381 => ?_) ?_
         ·
          have hb382 := low0 hi.1 hi381
          refine Xb rfl rfl rfl h240 ?_
          refine wpo_sub (c := x.th - 1) rfl rfl (by omega) (by omega) (by omega) rfl ?_
          exact wpo_nil ⟨rfl, hi381⟩
         refine Xd rfl (fun w383 hi384 => ?_) ?_
         ·
          have hb385 := low0 hi.1 hi384
          refine Xb rfl rfl rfl h240 ?_
          refine Xz Jf rfl rfl ha330 ho331 (by omega) (by omega) rfl ?_
          exact wpo_nil ⟨rfl, hi384⟩
         refine Xd rfl (fun w386 hi387 => ?_) ?_
         ·
          have hb388 := low0 hi.1 hi387
          refine Xb rfl rfl rfl h240 ?_
          refine wpo_fieldAddr (o' := o329 + 3) Ji rfl rfl rfl ?_
          exact wpo_nil ⟨rfl, hi387⟩
         refine Xd rfl (fun w389 hi390 => ?_) ?_
         ·
          have hb391 := low0 hi.1 hi390
          refine Xb rfl rfl rfl h240 ?_
          refine wpo_load1 (v := .int .i64 ((mAt ms ((x.th - 1).toNat)).t.ve)) X1 rfl ((Yd hr332 hi390) 3 _ rfl) rfl ?_
          exact wpo_nil ⟨rfl, hi390⟩
         exact Qc
        ·
         intro w392 hi393
         have hb394 := low0 hi.1 hi393
         refine Xb rfl rfl rfl h240 ?_
         refine wpo_gtr (q := decide ((mAt ms ((x.th - 1).toNat)).t.ve < x.ve)) rfl rfl rfl rfl ?_
         refine wpo_pickf (v := .bool (decide ((mAt ms ((x.th - 1).toNat)).t.ve < x.ve))) rfl h240 rfl rfl ?_
         exact wpo_nil (Xo ⟨⟨h2, (congrArg Value.bool (by first | (simp only [h217, h240, h304, b0, b1, b2, b3, b4, b5, b6, b7, b8, b9]; done) | simp [h217, h240, h304]))⟩, hi393⟩)
      ·
       rintro f395 w396 ⟨⟨e397, e398⟩, hg399⟩
       have hb400 := low0 hi.1 hg399
       refine Xp e398 (fun h401 => ?_) (fun h401 => ?_)
       ·
        refine Xa ?_
        have k402 := (hi.2.2.1.grown0 hg399)
        refine wpo_store1 (v := .bool false) (cs' := #[.bool false]) J9 e397 rfl rfl k402 (Nat.le_of_ble_eq_true rfl) rfl ?_
        intro w403 hS404
        have hb405 := low1 hb400 hS404.grw (by omega)
        refine wpo_nil ?_
        refine Xk ?_
        refine Y4 ?_
        exact Or.inr ⟨rfl, (Xj (S3 hg399) hS404.grw), hb405, hS404.blk, Qi ((Lz h217).symm.trans h401)⟩
       ·
        have h406 := Vn h401
        have h407 := Y5 h406
        have hr408 := Q9.1 h407
        have h409 := Vo h401
        have h410 := of_decide_eq_false h409
        refine Xm ?_
        refine Je ?_
        exact Or.inl ⟨rfl, hg399, Y5 ((Lz h217).symm.trans h401)⟩
    ·
     rintro e f2 w2 (⟨rfl, hg, hx⟩ | ⟨rfl, hg, hg0, hb, hx⟩)
     ·
      exact Or.inl ⟨rfl, S4 hg, Sl hg hlW, low0 hi.1 hg, hi.2.1.grown0 hg, hi.2.2.1.grown0 hg, by rw [List.all_append, hi.2.2.2.1]; simp [hx], Nat.le_trans hi.2.2.2.2 hg.size⟩
     ·
      exact Or.inr ⟨rfl, S5 hg hlb2, hg.size, hg0, hb, by rw [List.all_append]; simp [hx]⟩
   ·
    intro D xs W hD hS hi hK
    subst hS
    have hDB : D ≠ B105 := by omega
    refine hEnd.closed.move rfl (fun _ => U3) ?_
    refine Cw hEnd (fT := fT) (v := .bool true) (cs' := #[.bool true]) ha.eval J9 e2 rfl rfl hi.2.2.1 (by simp) rfl fun W2 hsb => ?_
    have hK' : W2.heap[D]? = some (.deferred (some [])) := (hsb.grw.block D (Array.getElem?_eq_some_iff.1 hK).1 (fun e => hDB (Option.some.inj e))).trans hK
    have hgp := grownBy_putObj' W2 D (.deferred none)
    have hb2 := hsb.blk.grown hgp (Qh (Ne.symm hDB))
    refine hEnd.finD ha hK' ⟨.bool true, resC rfl (resCell_mk1 J9 e2 (hb2.cell rfl)), ?_, ?_⟩ _
    ·
     rw [R6 h119 hall (by omega), hi.2.2.2.1]
    ·
     exact low1 (low1 hi.1 hsb.grw (by omega)) hgp (Nat.le_trans hb207.size hD)
   ·
    intro D pre W hD hSp hx hK
    obtain ⟨hg, hb, hf⟩ := hx
    have hDB : D ≠ B105 := by omega
    have hgp := grownBy_putObj' W D (.deferred none)
    have hb2 := hb.grown hgp (Qh (Ne.symm hDB))
    refine hEnd.finD ha hK ⟨.bool false, resC rfl (resCell_mk1 J9 e2 (hb2.cell rfl)), ?_, ?_⟩ _
    ·
     rw [R6 h119 hall (by omega), Sj hSp hf]
    ·
     exact low1 hg hgp (Nat.le_trans hb207.size hD)
end Go.Dw.J
end
section
namespace Go.Dw
set_option linter.unusedSimpArgs false
set_option linter.unusedVariables false
def viewTh (t : Th) (l : Lab) : Th := if labelFlow t.lab l = true then t else thingNew t.kind t.lab t.to
theorem Sc {t : Th} {l : Lab} (h : labelFlow t.lab l = true) : viewTh t l = t := if_pos h
theorem Sd {t : Th} {l : Lab} (h : labelFlow t.lab l = false) (h2 : newOk t.kind t.lab t.to = false) : viewTh t l = Th.zero := by
  unfold viewTh thingNew
  rw [if_neg (by rw [h]; simp), if_neg (by rw [h2]; simp)]
theorem Cj {t : Th} {l : Lab} (h : labelFlow t.lab l = false) (h2 : newOk t.kind t.lab t.to = true) (h3 : (decide (t.kind = 2) || decide (t.kind = 3)) = true) : viewTh t l = ⟨t.kind, t.lab, 0, 0, zeros4, [], t.to⟩ := by
  unfold viewTh thingNew newTh
  rw [if_neg (by rw [h]; simp), if_pos h2, if_pos (by unfold has4; exact h3)]
theorem Ci {t : Th} {l : Lab} (h : labelFlow t.lab l = false) (h2 : newOk t.kind t.lab t.to = true) (h3 : (decide (t.kind = 2) || decide (t.kind = 3)) = false) : viewTh t l = ⟨t.kind, t.lab, 0, 0, [], [], t.to⟩ := by
  unfold viewTh thingNew newTh
  rw [if_neg (by rw [h]; simp), if_pos h2, if_neg (by unfold has4; rw [h3]; simp)]
end Go.Dw
end
section
namespace Go.Dw.J
open Go.RowKit Go.Dw Go.Proofs
set_option linter.unusedSectionVars false
set_option maxRecDepth 100000
set_option maxHeartbeats 4000000
set_option linter.unusedSimpArgs false
set_option linter.unusedVariables false
theorem Zh : goFn Try.prog 116 = true := by kernel_rfl
theorem T6 : goFn Try.prog 17 = true := by kernel_rfl
theorem Xan : goFn Try.prog 18 = true := by kernel_rfl
theorem Xa1 : goFn Try.prog 86 = true := by kernel_rfl
theorem E5 [Comp] (w : World) (xs : List Int) (a : Option Addr) (c : Nat) (hs : SlAt w a 1 (xs.map icell)) (hc : a = none → c = 0) (hn : xs.length ≤ 1048576) : CallsR Try.prog 116 #[.slice a xs.length c] w (fun v w' => ∃ (a' : Option Addr) (cap' : Nat), v = .slice a' xs.length cap' ∧ OwnN w.heap.size w' a' 3 1 cap' xs.length (xs.flatMap icell) ∧ w.grownBy w' none) := by
 refine Xl (n := 5) Try.func116 rfl Try.ntmps116 rfl ?_
 have hb0 := World.grownBy.refl w none
 refine Xa ?_
 refine wpo_assign (v := .slice none 0 0) rfl rfl ?_
 refine wpo_nil ?_
 refine Xa ?_
 refine wpo_move (v := .slice a xs.length c) rfl rfl ?_
 refine wpo_appendN (g := icell) (ys := []) (zs := xs) (lo := w.heap.size) Dn rfl Qb (by omega) Rf rfl rfl OwnN.nil (SlAt.low hs hb0) hc (by first | omega | exact Nat.le_of_ble_eq_true rfl | (simp only [List.length_nil, List.length_cons, List.length_append, List.length_replicate]; omega)) (by omega) hb0.size rfl ?_
 intro a101 cap102 w103 hO104 hg105 hor106
 have hb107 := low0 hb0 hg105
 refine wpo_assign (v := .slice a101 xs.length cap102) rfl rfl ?_
 refine wpo_nil ?_
 refine Xk ?_
 refine ⟨.slice a101 xs.length cap102, res1 rfl rfl, a101, cap102, rfl, hO104, hb107⟩
theorem Pt [Comp] (w : World) (q : MTh) (hq : ThAt w q) (hn : q.t.slots.length ≤ 1048576 ∧ q.t.queue.length ≤ 1048576) : CallsR Try.prog 86 #[.agg #[.int .i64 q.t.kind, .int .i64 q.t.lab.s, .int .i64 q.t.lab.v, .int .i64 q.t.ve, .int .i64 q.t.num, .slice q.sa q.t.slots.length q.sc, .slice q.qa q.t.queue.length q.qc, .int .i64 q.t.to]] w (fun v w' => ∃ (sa : Option Addr) (sc : Nat) (qa : Option Addr) (qc : Nat), v = .agg #[.int .i64 q.t.kind, .int .i64 q.t.lab.s, .int .i64 q.t.lab.v, .int .i64 q.t.ve, .int .i64 q.t.num, .slice sa q.t.slots.length sc, .slice qa q.t.queue.length qc, .int .i64 q.t.to] ∧ OwnN w.heap.size w' sa 74 5 sc q.t.slots.length (q.t.slots.flatMap Rt.cells) ∧ OwnN w.heap.size w' qa 3 1 qc q.t.queue.length (q.t.queue.flatMap icell) ∧ w.grownBy w' none) := by
 refine Xl (n := 12) Try.func86 rfl Try.ntmps86 rfl ?_
 have hb0 := World.grownBy.refl w none
 refine Xa ?_
 refine wpo_box (v := .agg #[.int .i64 q.t.kind, .int .i64 q.t.lab.s, .int .i64 q.t.lab.v, .int .i64 q.t.ve, .int .i64 q.t.num, .slice q.sa q.t.slots.length q.sc, .slice q.qa q.t.queue.length q.qc, .int .i64 q.t.to]) (cs := #[.int .i64 q.t.kind, .int .i64 q.t.lab.s, .int .i64 q.t.lab.v, .int .i64 q.t.ve, .int .i64 q.t.num, .slice q.sa q.t.slots.length q.sc, .slice q.qa q.t.queue.length q.qc, .int .i64 q.t.to]) rfl rfl rfl ?_
 intro B101 w102 hN103
 have hlB101 := Xv hN103 hb0
 have hb104 := low0 hb0 hN103.grw
 refine wpo_alloc (cs := #[.int .i64 0, .int .i64 0, .int .i64 0, .int .i64 0, .int .i64 0, .slice none 0 0, .slice none 0 0, .int .i64 0]) Jd rfl rfl ?_
 intro B105 w106 hN107
 have hlB105 := Xv hN107 hb104
 have lt_B101_B105 := Xr hN107 (hN103.blk).lt
 have hb108 := low0 hb104 hN107.grw
 refine wpo_nil ?_
 refine Xa ?_
 refine wpo_fieldAddr (o' := 5) Y7 rfl rfl rfl ?_
 have k109 := (hN103.blk.grown0 hN107.grw)
 refine wpo_load1 (v := .slice q.sa q.t.slots.length q.sc) Jl rfl (k109.cell rfl) rfl ?_
 refine Xi (vs := [.slice q.sa q.t.slots.length q.sc]) Oe (Xc rfl Xg) rfl (T2 _ q.t.slots _ _ (ThAt.low hq hb108).1 (ThAt.low hq hb108).2.2.1 (by first | omega | exact Nat.le_of_ble_eq_true rfl | (simp only [List.length_nil, List.length_cons, List.length_append, List.length_replicate]; omega))) ?_
 rintro _ w114 ⟨a110, cap111, rfl, hO112, hg113⟩
 have hb115 := low0 hb108 hg113
 have hO116 := OwnN.mono hO112 hb108.size
 refine wpo_fieldAddr (o' := 5) Y7 rfl rfl rfl ?_
 have k117 := (k109.grown0 hg113)
 refine wpo_store1 (v := .slice a110 q.t.slots.length cap111) (cs' := #[.int .i64 q.t.kind, .int .i64 q.t.lab.s, .int .i64 q.t.lab.v, .int .i64 q.t.ve, .int .i64 q.t.num, .slice a110 q.t.slots.length cap111, .slice q.qa q.t.queue.length q.qc, .int .i64 q.t.to]) Jl rfl rfl rfl k117 (Nat.le_of_ble_eq_true rfl) rfl ?_
 intro w118 hS119
 have hb120 := low1 hb115 hS119.grw (by omega)
 refine wpo_nil ?_
 refine Xa ?_
 refine wpo_fieldAddr (o' := 6) Qy rfl rfl rfl ?_
 refine wpo_load1 (v := .slice q.qa q.t.queue.length q.qc) J5 rfl (hS119.blk.cell rfl) rfl ?_
 refine Xi (vs := [.slice q.qa q.t.queue.length q.qc]) Zh (Xc rfl Xg) rfl (E5 _ q.t.queue _ _ (ThAt.low hq hb120).2.1 (ThAt.low hq hb120).2.2.2 (by first | omega | exact Nat.le_of_ble_eq_true rfl | (simp only [List.length_nil, List.length_cons, List.length_append, List.length_replicate]; omega))) ?_
 rintro _ w125 ⟨a121, cap122, rfl, hO123, hg124⟩
 have hb126 := low0 hb120 hg124
 have hO127 := OwnN.mono hO123 hb120.size
 refine wpo_fieldAddr (o' := 6) Qy rfl rfl rfl ?_
 have k128 := (hS119.blk.grown0 hg124)
 refine wpo_store1 (v := .slice a121 q.t.queue.length cap122) (cs' := #[.int .i64 q.t.kind, .int .i64 q.t.lab.s, .int .i64 q.t.lab.v, .int .i64 q.t.ve, .int .i64 q.t.num, .slice a110 q.t.slots.length cap111, .slice a121 q.t.queue.length cap122, .int .i64 q.t.to]) J5 rfl rfl rfl k128 (Nat.le_of_ble_eq_true rfl) rfl ?_
 intro w129 hS130
 have hb131 := low1 hb126 hS130.grw (by omega)
 refine wpo_nil ?_
 refine Xa ?_
 refine wpo_loadn (vs := [.int .i64 q.t.kind, .int .i64 q.t.lab.s, .int .i64 q.t.lab.v, .int .i64 q.t.ve, .int .i64 q.t.num, .slice a110 q.t.slots.length cap111, .slice a121 q.t.queue.length cap122, .int .i64 q.t.to]) X5 rfl rfl (hS130.blk.rangeL 0 8 rfl) rfl ?_
 have k132 := ((((hN107.blk.grown0 hg113).gn hS119.grw).grown0 hg124).gn hS130.grw)
 refine wpo_storen (vs := [.int .i64 q.t.kind, .int .i64 q.t.lab.s, .int .i64 q.t.lab.v, .int .i64 q.t.ve, .int .i64 q.t.num, .slice a110 q.t.slots.length cap111, .slice a121 q.t.queue.length cap122, .int .i64 q.t.to]) (cs' := #[.int .i64 q.t.kind, .int .i64 q.t.lab.s, .int .i64 q.t.lab.v, .int .i64 q.t.ve, .int .i64 q.t.num, .slice a110 q.t.slots.length cap111, .slice a121 q.t.queue.length cap122, .int .i64 q.t.to]) X5 rfl rfl rfl (by simp [Value.oneCell']) k132 (Nat.le_of_ble_eq_true rfl) rfl ?_
 intro w133 hS134
 have hb135 := low1 hb131 hS134.grw (by omega)
 refine wpo_nil ?_
 refine Xk ?_
 refine ⟨.agg #[.int .i64 q.t.kind, .int .i64 q.t.lab.s, .int .i64 q.t.lab.v, .int .i64 q.t.ve, .int .i64 q.t.num, .slice a110 q.t.slots.length cap111, .slice a121 q.t.queue.length cap122, .int .i64 q.t.to], resC rfl (resCell_mk (vs := [.int .i64 q.t.kind, .int .i64 q.t.lab.s, .int .i64 q.t.lab.v, .int .i64 q.t.ve, .int .i64 q.t.num, .slice a110 q.t.slots.length cap111, .slice a121 q.t.queue.length cap122, .int .i64 q.t.to]) X5 rfl rfl (hS134.blk.rangeL 0 8 rfl)), a110, cap111, a121, cap122, rfl, (OwnN.typB (OwnN.typB ((OwnN.typB hO116 hS119.grw k117 (by decide)).grown0 hg124) hS130.grw k128 (by decide)) hS134.grw k132 (by decide)), (OwnN.typB (OwnN.typB hO127 hS130.grw k128 (by decide)) hS134.grw k132 (by decide)), hb135⟩
theorem Se [Comp] (l : Lab) (w : World) (q : MTh) (hq : ThAt w q) (hn : q.t.slots.length ≤ 1048576 ∧ q.t.queue.length ≤ 1048576) : CallsR Try.prog 42 #[.agg #[.int .i64 q.t.kind, .int .i64 q.t.lab.s, .int .i64 q.t.lab.v, .int .i64 q.t.ve, .int .i64 q.t.num, .slice q.sa q.t.slots.length q.sc, .slice q.qa q.t.queue.length q.qc, .int .i64 q.t.to], .agg #[.int .i64 l.s, .int .i64 l.v]] w (fun v w' => ∃ (sa : Option Addr) (sc : Nat) (qa : Option Addr) (qc : Nat), v = .agg #[.int .i64 ((viewTh q.t l).kind), .int .i64 ((viewTh q.t l).lab.s), .int .i64 ((viewTh q.t l).lab.v), .int .i64 ((viewTh q.t l).ve), .int .i64 ((viewTh q.t l).num), .slice sa ((viewTh q.t l).slots.length) sc, .slice qa ((viewTh q.t l).queue.length) qc, .int .i64 ((viewTh q.t l).to)] ∧ OwnN w.heap.size w' sa 74 5 sc (viewTh q.t l).slots.length ((viewTh q.t l).slots.flatMap Rt.cells) ∧ OwnN w.heap.size w' qa 3 1 qc (viewTh q.t l).queue.length ((viewTh q.t l).queue.flatMap icell) ∧ w.grownBy w' none) := by
 refine Xl (n := 24) Try.func42 rfl Try.ntmps42 rfl ?_
 have hb0 := World.grownBy.refl w none
 refine Xa ?_
 refine wpo_box (v := .agg #[.int .i64 q.t.kind, .int .i64 q.t.lab.s, .int .i64 q.t.lab.v, .int .i64 q.t.ve, .int .i64 q.t.num, .slice q.sa q.t.slots.length q.sc, .slice q.qa q.t.queue.length q.qc, .int .i64 q.t.to]) (cs := #[.int .i64 q.t.kind, .int .i64 q.t.lab.s, .int .i64 q.t.lab.v, .int .i64 q.t.ve, .int .i64 q.t.num, .slice q.sa q.t.slots.length q.sc, .slice q.qa q.t.queue.length q.qc, .int .i64 q.t.to]) rfl rfl rfl ?_
 intro B101 w102 hN103
 have hlB101 := Xv hN103 hb0
 have hb104 := low0 hb0 hN103.grw
 refine wpo_box (v := .agg #[.int .i64 l.s, .int .i64 l.v]) (cs := #[.int .i64 l.s, .int .i64 l.v]) rfl rfl rfl ?_
 intro B105 w106 hN107
 have hlB105 := Xv hN107 hb104
 have lt_B101_B105 := Xr hN107 (hN103.blk).lt
 have hb108 := low0 hb104 hN107.grw
 refine wpo_alloc (cs := #[.int .i64 0, .int .i64 0, .int .i64 0, .int .i64 0, .int .i64 0, .slice none 0 0, .slice none 0 0, .int .i64 0]) Jd rfl rfl ?_
 intro B109 w110 hN111
 have hlB109 := Xv hN111 hb108
 have k112 := (hN103.blk.grown0 hN107.grw)
 have lt_B101_B109 := Xr hN111 (k112).lt
 have lt_B105_B109 := Xr hN111 (hN107.blk).lt
 have hb113 := low0 hb108 hN111.grw
 refine wpo_nil ?_
 refine Xh ?_
 refine Xa ?_
 refine wpo_fieldAddr (o' := 1) Ju rfl rfl rfl ?_
 have k114 := (k112.grown0 hN111.grw)
 refine wpo_loadn (vs := [.int .i64 q.t.lab.s, .int .i64 q.t.lab.v]) Qg rfl rfl (k114.rangeL 1 2 rfl) rfl ?_
 have k115 := (hN107.blk.grown0 hN111.grw)
 refine wpo_loadn (vs := [.int .i64 l.s, .int .i64 l.v]) Qg rfl rfl (k115.rangeL 0 2 rfl) rfl ?_
 refine Xi (vs := [.agg #[.int .i64 q.t.lab.s, .int .i64 q.t.lab.v], .agg #[.int .i64 l.s, .int .i64 l.v]]) Xan (Xc rfl (Xc rfl Xg)) rfl (Pj q.t.lab l _) ?_
 rintro _ w116 ⟨rfl, hg117⟩
 have hb118 := low0 hb113 hg117
 refine wpo_nil ?_
 refine Xp rfl (fun h119 => ?_) (fun h119 => ?_)
 ·
  refine Xa ?_
  have k120 := (k114.grown0 hg117)
  refine wpo_loadn (vs := [.int .i64 q.t.kind, .int .i64 q.t.lab.s, .int .i64 q.t.lab.v, .int .i64 q.t.ve, .int .i64 q.t.num, .slice q.sa q.t.slots.length q.sc, .slice q.qa q.t.queue.length q.qc, .int .i64 q.t.to]) X5 rfl rfl (k120.rangeL 0 8 rfl) rfl ?_
  refine Xi (vs := [.agg #[.int .i64 q.t.kind, .int .i64 q.t.lab.s, .int .i64 q.t.lab.v, .int .i64 q.t.ve, .int .i64 q.t.num, .slice q.sa q.t.slots.length q.sc, .slice q.qa q.t.queue.length q.qc, .int .i64 q.t.to]]) Xa1 (Xc rfl Xg) rfl (Pt _ q (ThAt.low hq hb118) (by omega)) ?_
  rintro _ w128 ⟨a121, cap122, a123, cap124, rfl, hO125, hO126, hg127⟩
  have hb129 := low0 hb118 hg127
  have hO130 := OwnN.mono hO125 hb118.size
  have hO131 := OwnN.mono hO126 hb118.size
  have k132 := ((hN111.blk.grown0 hg117).grown0 hg127)
  refine wpo_storen (vs := [.int .i64 q.t.kind, .int .i64 q.t.lab.s, .int .i64 q.t.lab.v, .int .i64 q.t.ve, .int .i64 q.t.num, .slice a121 q.t.slots.length cap122, .slice a123 q.t.queue.length cap124, .int .i64 q.t.to]) (cs' := #[.int .i64 q.t.kind, .int .i64 q.t.lab.s, .int .i64 q.t.lab.v, .int .i64 q.t.ve, .int .i64 q.t.num, .slice a121 q.t.slots.length cap122, .slice a123 q.t.queue.length cap124, .int .i64 q.t.to]) X5 rfl rfl rfl (by simp [Value.oneCell']) k132 (Nat.le_of_ble_eq_true rfl) rfl ?_
  intro w133 hS134
  have hb135 := low1 hb129 hS134.grw (by omega)
  refine wpo_nil ?_
  refine Xk ?_
  refine Xy ?_
  have hv : viewTh q.t l = q.t := Sc h119
  rw [hv]
  refine ⟨.agg #[.int .i64 q.t.kind, .int .i64 q.t.lab.s, .int .i64 q.t.lab.v, .int .i64 q.t.ve, .int .i64 q.t.num, .slice a121 q.t.slots.length cap122, .slice a123 q.t.queue.length cap124, .int .i64 q.t.to], resC rfl (resCell_mk (vs := [.int .i64 q.t.kind, .int .i64 q.t.lab.s, .int .i64 q.t.lab.v, .int .i64 q.t.ve, .int .i64 q.t.num, .slice a121 q.t.slots.length cap122, .slice a123 q.t.queue.length cap124, .int .i64 q.t.to]) X5 rfl rfl (hS134.blk.rangeL 0 8 rfl)), a121, cap122, a123, cap124, rfl, (OwnN.typB hO130 hS134.grw k132 (by decide)), (OwnN.typB hO131 hS134.grw k132 (by decide)), hb135⟩
 ·
  refine Xm ?_
  refine Xo ?_
  refine Xa ?_
  refine wpo_fieldAddr (o' := 0) Yg rfl rfl rfl ?_
  have k136 := (k114.grown0 hg117)
  refine wpo_load1 (v := .int .i64 q.t.kind) X1 rfl (k136.cell rfl) rfl ?_
  refine wpo_fieldAddr (o' := 1) Ju rfl rfl rfl ?_
  refine wpo_loadn (vs := [.int .i64 q.t.lab.s, .int .i64 q.t.lab.v]) Qg rfl rfl (k136.rangeL 1 2 rfl) rfl ?_
  refine wpo_fieldAddr (o' := 7) Q1 rfl rfl rfl ?_
  refine wpo_load1 (v := .int .i64 q.t.to) X1 rfl (k136.cell rfl) rfl ?_
  rcases X2 ((decide (q.t.kind = 2)) || (decide (q.t.kind = 3))) with h137 | h137
  ·
   rcases X2 (newOk q.t.kind q.t.lab q.t.to) with h138 | h138
   ·
    have k139 := (k115.grown0 hg117)
    have k140 := (hN111.blk.grown0 hg117)
    have h141 : thingOk (⟨q.t.kind, q.t.lab, 0, 0, zeros4, [], q.t.to⟩ : Th) = true := (Ur h137).symm.trans h138
    refine Xi (vs := [.int .i64 q.t.kind, .agg #[.int .i64 q.t.lab.s, .int .i64 q.t.lab.v], .int .i64 q.t.to]) T6 (Xc rfl (Xc rfl (Xc rfl Xg))) rfl (Po q.t.kind q.t.to q.t.lab h137 h138 _) ?_
    rintro _ w142 ⟨B144, cap145, rfl, hge146, hO147, hg143⟩
    have hb148 := low0 hb118 hg143
    have hlB144 := Nat.le_trans hb118.size hge146
    have lt_B101_B144 := Nat.lt_of_lt_of_le (k136).lt hge146
    have lt_B105_B144 := Nat.lt_of_lt_of_le (k139).lt hge146
    have lt_B109_B144 := Nat.lt_of_lt_of_le (k140).lt hge146
    refine wpo_move (v := .tuple #[.agg #[.int .i64 q.t.kind, .int .i64 q.t.lab.s, .int .i64 q.t.lab.v, .int .i64 0, .int .i64 0, .slice (some ⟨B144, 0, none⟩) 4 cap145, .slice none 0 0, .int .i64 q.t.to], .bool true]) rfl rfl ?_
    refine wpo_extract (v := .agg #[.int .i64 q.t.kind, .int .i64 q.t.lab.s, .int .i64 q.t.lab.v, .int .i64 0, .int .i64 0, .slice (some ⟨B144, 0, none⟩) 4 cap145, .slice none 0 0, .int .i64 q.t.to]) rfl rfl rfl ?_
    refine wpo_extract (v := .bool true) rfl rfl rfl ?_
    refine wpo_alloc (cs := #[.int .i64 0, .int .i64 0, .int .i64 0, .int .i64 0, .int .i64 0, .slice none 0 0, .slice none 0 0, .int .i64 0]) Jd rfl rfl ?_
    intro B149 w150 hN151
    have hlB149 := Xv hN151 hb148
    have k152 := (k136.grown0 hg143)
    have lt_B101_B149 := Xr hN151 (k152).lt
    have k153 := (k139.grown0 hg143)
    have lt_B105_B149 := Xr hN151 (k153).lt
    have k154 := (k140.grown0 hg143)
    have lt_B109_B149 := Xr hN151 (k154).lt
    have lt_B144_B149 := Xr hN151 (hO147).lt
    have hb155 := low0 hb148 hN151.grw
    refine wpo_storen (vs := [.int .i64 q.t.kind, .int .i64 q.t.lab.s, .int .i64 q.t.lab.v, .int .i64 0, .int .i64 0, .slice (some ⟨B144, 0, none⟩) 4 cap145, .slice none 0 0, .int .i64 q.t.to]) (cs' := #[.int .i64 q.t.kind, .int .i64 q.t.lab.s, .int .i64 q.t.lab.v, .int .i64 0, .int .i64 0, .slice (some ⟨B144, 0, none⟩) 4 cap145, .slice none 0 0, .int .i64 q.t.to]) X5 rfl rfl rfl (by simp [Value.oneCell']) hN151.blk (Nat.le_of_ble_eq_true rfl) rfl ?_
    intro w156 hS157
    have hb158 := low1 hb155 hS157.grw (by omega)
    refine wpo_assign (v := .bool true) rfl rfl ?_
    refine wpo_nil ?_
    refine Xa ?_
    refine wpo_loadn (vs := [.int .i64 q.t.kind, .int .i64 q.t.lab.s, .int .i64 q.t.lab.v, .int .i64 0, .int .i64 0, .slice (some ⟨B144, 0, none⟩) 4 cap145, .slice none 0 0, .int .i64 q.t.to]) X5 rfl rfl (hS157.blk.rangeL 0 8 rfl) rfl ?_
    have k159 := ((k154.grown0 hN151.grw).gn hS157.grw)
    refine wpo_storen (vs := [.int .i64 q.t.kind, .int .i64 q.t.lab.s, .int .i64 q.t.lab.v, .int .i64 0, .int .i64 0, .slice (some ⟨B144, 0, none⟩) 4 cap145, .slice none 0 0, .int .i64 q.t.to]) (cs' := #[.int .i64 q.t.kind, .int .i64 q.t.lab.s, .int .i64 q.t.lab.v, .int .i64 0, .int .i64 0, .slice (some ⟨B144, 0, none⟩) 4 cap145, .slice none 0 0, .int .i64 q.t.to]) X5 rfl rfl rfl (by simp [Value.oneCell']) k159 (Nat.le_of_ble_eq_true rfl) rfl ?_
    intro w160 hS161
    have hb162 := low1 hb158 hS161.grw (by omega)
    refine wpo_nil ?_
    refine Xk ?_
    have hv : viewTh q.t l = ⟨q.t.kind, q.t.lab, 0, 0, zeros4, [], q.t.to⟩ := Cj h119 h138 h137
    have k163 := (((hO147.grown0 hN151.grw).gn hS157.grw).gn hS161.grw)
    rw [hv]
    refine ⟨.agg #[.int .i64 q.t.kind, .int .i64 q.t.lab.s, .int .i64 q.t.lab.v, .int .i64 0, .int .i64 0, .slice (some ⟨B144, 0, none⟩) 4 cap145, .slice none 0 0, .int .i64 q.t.to], resC rfl (resCell_mk (vs := [.int .i64 q.t.kind, .int .i64 q.t.lab.s, .int .i64 q.t.lab.v, .int .i64 0, .int .i64 0, .slice (some ⟨B144, 0, none⟩) 4 cap145, .slice none 0 0, .int .i64 q.t.to]) X5 rfl rfl (hS161.blk.rangeL 0 8 rfl)), some ⟨B144, 0, none⟩, cap145, none, 0, rfl, (OwnN.of k163 hlB144), OwnN.nil, hb162⟩
   ·
    have k164 := (k115.grown0 hg117)
    have k165 := (hN111.blk.grown0 hg117)
    have h166 : thingOk (⟨q.t.kind, q.t.lab, 0, 0, zeros4, [], q.t.to⟩ : Th) = false := (Ur h137).symm.trans h138
    refine Xi (vs := [.int .i64 q.t.kind, .agg #[.int .i64 q.t.lab.s, .int .i64 q.t.lab.v], .int .i64 q.t.to]) T6 (Xc rfl (Xc rfl (Xc rfl Xg))) rfl (Pn q.t.kind q.t.to q.t.lab h137 h138 _) ?_
    rintro _ w167 ⟨rfl, hg168⟩
    have hb169 := low0 hb118 hg168
    refine wpo_move (v := .tuple #[.agg #[.int .i64 0, .int .i64 0, .int .i64 0, .int .i64 0, .int .i64 0, .slice none 0 0, .slice none 0 0, .int .i64 0], .bool false]) rfl rfl ?_
    refine wpo_extract (v := .agg #[.int .i64 0, .int .i64 0, .int .i64 0, .int .i64 0, .int .i64 0, .slice none 0 0, .slice none 0 0, .int .i64 0]) rfl rfl rfl ?_
    refine wpo_extract (v := .bool false) rfl rfl rfl ?_
    refine wpo_alloc (cs := #[.int .i64 0, .int .i64 0, .int .i64 0, .int .i64 0, .int .i64 0, .slice none 0 0, .slice none 0 0, .int .i64 0]) Jd rfl rfl ?_
    intro B170 w171 hN172
    have hlB170 := Xv hN172 hb169
    have k173 := (k136.grown0 hg168)
    have lt_B101_B170 := Xr hN172 (k173).lt
    have k174 := (k164.grown0 hg168)
    have lt_B105_B170 := Xr hN172 (k174).lt
    have k175 := (k165.grown0 hg168)
    have lt_B109_B170 := Xr hN172 (k175).lt
    have hb176 := low0 hb169 hN172.grw
    refine wpo_storen (vs := [.int .i64 0, .int .i64 0, .int .i64 0, .int .i64 0, .int .i64 0, .slice none 0 0, .slice none 0 0, .int .i64 0]) (cs' := #[.int .i64 0, .int .i64 0, .int .i64 0, .int .i64 0, .int .i64 0, .slice none 0 0, .slice none 0 0, .int .i64 0]) X5 rfl rfl rfl (by simp [Value.oneCell']) hN172.blk (Nat.le_of_ble_eq_true rfl) rfl ?_
    intro w177 hS178
    have hb179 := low1 hb176 hS178.grw (by omega)
    refine wpo_assign (v := .bool false) rfl rfl ?_
    refine wpo_nil ?_
    refine Xa ?_
    refine wpo_loadn (vs := [.int .i64 0, .int .i64 0, .int .i64 0, .int .i64 0, .int .i64 0, .slice none 0 0, .slice none 0 0, .int .i64 0]) X5 rfl rfl (hS178.blk.rangeL 0 8 rfl) rfl ?_
    have k180 := ((k175.grown0 hN172.grw).gn hS178.grw)
    refine wpo_storen (vs := [.int .i64 0, .int .i64 0, .int .i64 0, .int .i64 0, .int .i64 0, .slice none 0 0, .slice none 0 0, .int .i64 0]) (cs' := #[.int .i64 0, .int .i64 0, .int .i64 0, .int .i64 0, .int .i64 0, .slice none 0 0, .slice none 0 0, .int .i64 0]) X5 rfl rfl rfl (by simp [Value.oneCell']) k180 (Nat.le_of_ble_eq_true rfl) rfl ?_
    intro w181 hS182
    have hb183 := low1 hb179 hS182.grw (by omega)
    refine wpo_nil ?_
    refine Xk ?_
    have hv : viewTh q.t l = Th.zero := Sd h119 h138
    rw [hv]
    refine ⟨.agg #[.int .i64 0, .int .i64 0, .int .i64 0, .int .i64 0, .int .i64 0, .slice none 0 0, .slice none 0 0, .int .i64 0], resC rfl (resCell_mk (vs := [.int .i64 0, .int .i64 0, .int .i64 0, .int .i64 0, .int .i64 0, .slice none 0 0, .slice none 0 0, .int .i64 0]) X5 rfl rfl (hS182.blk.rangeL 0 8 rfl)), none, 0, none, 0, rfl, OwnN.nil, OwnN.nil, hb183⟩
  ·
   have h184 := Vn h137
   have h185 := of_decide_eq_false h184
   have h186 := Vo h137
   have h187 := of_decide_eq_false h186
   rcases X2 (newOk q.t.kind q.t.lab q.t.to) with h188 | h188
   ·
    have k189 := (k115.grown0 hg117)
    have k190 := (hN111.blk.grown0 hg117)
    have h191 : thingOk (⟨q.t.kind, q.t.lab, 0, 0, [], [], q.t.to⟩ : Th) = true := (Uq h137).symm.trans h188
    refine Xi (vs := [.int .i64 q.t.kind, .agg #[.int .i64 q.t.lab.s, .int .i64 q.t.lab.v], .int .i64 q.t.to]) T6 (Xc rfl (Xc rfl (Xc rfl Xg))) rfl (Pm q.t.kind q.t.to q.t.lab h137 h188 _) ?_
    rintro _ w192 ⟨rfl, hg193⟩
    have hb194 := low0 hb118 hg193
    refine wpo_move (v := .tuple #[.agg #[.int .i64 q.t.kind, .int .i64 q.t.lab.s, .int .i64 q.t.lab.v, .int .i64 0, .int .i64 0, .slice none 0 0, .slice none 0 0, .int .i64 q.t.to], .bool true]) rfl rfl ?_
    refine wpo_extract (v := .agg #[.int .i64 q.t.kind, .int .i64 q.t.lab.s, .int .i64 q.t.lab.v, .int .i64 0, .int .i64 0, .slice none 0 0, .slice none 0 0, .int .i64 q.t.to]) rfl rfl rfl ?_
    refine wpo_extract (v := .bool true) rfl rfl rfl ?_
    refine wpo_alloc (cs := #[.int .i64 0, .int .i64 0, .int .i64 0, .int .i64 0, .int .i64 0, .slice none 0 0, .slice none 0 0, .int .i64 0]) Jd rfl rfl ?_
    intro B195 w196 hN197
    have hlB195 := Xv hN197 hb194
    have k198 := (k136.grown0 hg193)
    have lt_B101_B195 := Xr hN197 (k198).lt
    have k199 := (k189.grown0 hg193)
    have lt_B105_B195 := Xr hN197 (k199).lt
    have k200 := (k190.grown0 hg193)
    have lt_B109_B195 := Xr hN197 (k200).lt
    have hb201 := low0 hb194 hN197.grw
    refine wpo_storen (vs := [.int .i64 q.t.kind, .int .i64 q.t.lab.s, .int .i64 q.t.lab.v, .int .i64 0, .int .i64 0, .slice none 0 0, .slice none 0 0, .int .i64 q.t.to]) (cs' := #[.int .i64 q.t.kind, .int .i64 q.t.lab.s, .int .i64 q.t.lab.v, .int .i64 0, .int .i64 0, .slice none 0 0, .slice none 0 0, .int .i64 q.t.to]) X5 rfl rfl rfl (by simp [Value.oneCell']) hN197.blk (Nat.le_of_ble_eq_true rfl) rfl ?_
    intro w202 hS203
    have hb204 := low1 hb201 hS203.grw (by omega)
    refine wpo_assign (v := .bool true) rfl rfl ?_
    refine wpo_nil ?_
    refine Xa ?_
    refine wpo_loadn (vs := [.int .i64 q.t.kind, .int .i64 q.t.lab.s, .int .i64 q.t.lab.v, .int .i64 0, .int .i64 0, .slice none 0 0, .slice none 0 0, .int .i64 q.t.to]) X5 rfl rfl (hS203.blk.rangeL 0 8 rfl) rfl ?_
    have k205 := ((k200.grown0 hN197.grw).gn hS203.grw)
    refine wpo_storen (vs := [.int .i64 q.t.kind, .int .i64 q.t.lab.s, .int .i64 q.t.lab.v, .int .i64 0, .int .i64 0, .slice none 0 0, .slice none 0 0, .int .i64 q.t.to]) (cs' := #[.int .i64 q.t.kind, .int .i64 q.t.lab.s, .int .i64 q.t.lab.v, .int .i64 0, .int .i64 0, .slice none 0 0, .slice none 0 0, .int .i64 q.t.to]) X5 rfl rfl rfl (by simp [Value.oneCell']) k205 (Nat.le_of_ble_eq_true rfl) rfl ?_
    intro w206 hS207
    have hb208 := low1 hb204 hS207.grw (by omega)
    refine wpo_nil ?_
    refine Xk ?_
    have hv : viewTh q.t l = ⟨q.t.kind, q.t.lab, 0, 0, [], [], q.t.to⟩ := Ci h119 h188 h137
    rw [hv]
    refine ⟨.agg #[.int .i64 q.t.kind, .int .i64 q.t.lab.s, .int .i64 q.t.lab.v, .int .i64 0, .int .i64 0, .slice none 0 0, .slice none 0 0, .int .i64 q.t.to], resC rfl (resCell_mk (vs := [.int .i64 q.t.kind, .int .i64 q.t.lab.s, .int .i64 q.t.lab.v, .int .i64 0, .int .i64 0, .slice none 0 0, .slice none 0 0, .int .i64 q.t.to]) X5 rfl rfl (hS207.blk.rangeL 0 8 rfl)), none, 0, none, 0, rfl, OwnN.nil, OwnN.nil, hb208⟩
   ·
    have k209 := (k115.grown0 hg117)
    have k210 := (hN111.blk.grown0 hg117)
    have h211 : thingOk (⟨q.t.kind, q.t.lab, 0, 0, [], [], q.t.to⟩ : Th) = false := (Uq h137).symm.trans h188
    refine Xi (vs := [.int .i64 q.t.kind, .agg #[.int .i64 q.t.lab.s, .int .i64 q.t.lab.v], .int .i64 q.t.to]) T6 (Xc rfl (Xc rfl (Xc rfl Xg))) rfl (Pk q.t.kind q.t.to q.t.lab h137 h188 _) ?_
    rintro _ w212 ⟨rfl, hg213⟩
    have hb214 := low0 hb118 hg213
    refine wpo_move (v := .tuple #[.agg #[.int .i64 0, .int .i64 0, .int .i64 0, .int .i64 0, .int .i64 0, .slice none 0 0, .slice none 0 0, .int .i64 0], .bool false]) rfl rfl ?_
    refine wpo_extract (v := .agg #[.int .i64 0, .int .i64 0, .int .i64 0, .int .i64 0, .int .i64 0, .slice none 0 0, .slice none 0 0, .int .i64 0]) rfl rfl rfl ?_
    refine wpo_extract (v := .bool false) rfl rfl rfl ?_
    refine wpo_alloc (cs := #[.int .i64 0, .int .i64 0, .int .i64 0, .int .i64 0, .int .i64 0, .slice none 0 0, .slice none 0 0, .int .i64 0]) Jd rfl rfl ?_
    intro B215 w216 hN217
    have hlB215 := Xv hN217 hb214
    have k218 := (k136.grown0 hg213)
    have lt_B101_B215 := Xr hN217 (k218).lt
    have k219 := (k209.grown0 hg213)
    have lt_B105_B215 := Xr hN217 (k219).lt
    have k220 := (k210.grown0 hg213)
    have lt_B109_B215 := Xr hN217 (k220).lt
    have hb221 := low0 hb214 hN217.grw
    refine wpo_storen (vs := [.int .i64 0, .int .i64 0, .int .i64 0, .int .i64 0, .int .i64 0, .slice none 0 0, .slice none 0 0, .int .i64 0]) (cs' := #[.int .i64 0, .int .i64 0, .int .i64 0, .int .i64 0, .int .i64 0, .slice none 0 0, .slice none 0 0, .int .i64 0]) X5 rfl rfl rfl (by simp [Value.oneCell']) hN217.blk (Nat.le_of_ble_eq_true rfl) rfl ?_
    intro w222 hS223
    have hb224 := low1 hb221 hS223.grw (by omega)
    refine wpo_assign (v := .bool false) rfl rfl ?_
    refine wpo_nil ?_
    refine Xa ?_
    refine wpo_loadn (vs := [.int .i64 0, .int .i64 0, .int .i64 0, .int .i64 0, .int .i64 0, .slice none 0 0, .slice none 0 0, .int .i64 0]) X5 rfl rfl (hS223.blk.rangeL 0 8 rfl) rfl ?_
    have k225 := ((k220.grown0 hN217.grw).gn hS223.grw)
    refine wpo_storen (vs := [.int .i64 0, .int .i64 0, .int .i64 0, .int .i64 0, .int .i64 0, .slice none 0 0, .slice none 0 0, .int .i64 0]) (cs' := #[.int .i64 0, .int .i64 0, .int .i64 0, .int .i64 0, .int .i64 0, .slice none 0 0, .slice none 0 0, .int .i64 0]) X5 rfl rfl rfl (by simp [Value.oneCell']) k225 (Nat.le_of_ble_eq_true rfl) rfl ?_
    intro w226 hS227
    have hb228 := low1 hb224 hS227.grw (by omega)
    refine wpo_nil ?_
    refine Xk ?_
    have hv : viewTh q.t l = Th.zero := Sd h119 h188
    rw [hv]
    refine ⟨.agg #[.int .i64 0, .int .i64 0, .int .i64 0, .int .i64 0, .int .i64 0, .slice none 0 0, .slice none 0 0, .int .i64 0], resC rfl (resCell_mk (vs := [.int .i64 0, .int .i64 0, .int .i64 0, .int .i64 0, .int .i64 0, .slice none 0 0, .slice none 0 0, .int .i64 0]) X5 rfl rfl (hS227.blk.rangeL 0 8 rfl)), none, 0, none, 0, rfl, OwnN.nil, OwnN.nil, hb228⟩
end Go.Dw.J
end
section
namespace Go.Dw.J
open Go.RowKit Go.Dw Go.Proofs
set_option linter.unusedSectionVars false
set_option maxRecDepth 100000
set_option maxHeartbeats 4000000
set_option linter.unusedSimpArgs false
set_option linter.unusedVariables false
theorem I7 : goFn Try.prog 37 = true := by kernel_rfl
end Go.Dw.J
end
section
namespace Go.Dw.J
open Go.RowKit Go.Dw Go.Proofs
set_option linter.unusedSectionVars false
set_option maxRecDepth 100000
set_option maxHeartbeats 4000000
set_option linter.unusedSimpArgs false
set_option linter.unusedVariables false
theorem Vz : goFn Try.prog 15 = true := by kernel_rfl
end Go.Dw.J
end
section
namespace Go.Dw.J
open Go.RowKit Go.Dw Go.Proofs
set_option linter.unusedSectionVars false
set_option maxRecDepth 100000
set_option maxHeartbeats 4000000
set_option linter.unusedSimpArgs false
set_option linter.unusedVariables false
theorem Dk [Comp] (w : World) (ms : List MTh) (a : Option Addr) (c : Nat) (ht : TabAt w a ms) (hlen : TabLen ms) (hn : ms.length ≤ 1048576) : CallsR Try.prog 59 #[.slice a ms.length c] w (fun v w' => ∃ (B cap : Nat) (ys : List MTh), v = .slice (some ⟨B, 0, none⟩) ys.length cap ∧ tabT ys = tabT ms ∧ w.heap.size ≤ B ∧ Dw.Own w' B 35 8 cap ys.length (ys.flatMap MTh.cells) ∧ RowsO 74 3 w.heap.size w' ys ∧ w.grownBy w' none) := by
 refine Xl (n := 32) Try.func59 rfl Try.ntmps59 rfl ?_
 have hb0 := World.grownBy.refl w none
 refine Xa ?_
 refine wpo_assign (v := .slice none 0 0) rfl rfl ?_
 refine wpo_nil ?_
 refine Xa ?_
 refine wpo_buildSlice (ps := []) (e := 35) (cs := (([] : List MTh).flatMap MTh.cells).toArray) X9 (fun _ => by kernel_rfl) rfl ?_
 intro B101 w102 hN103
 have hlB101 := Xv hN103 hb0
 have hb104 := low0 hb0 hN103.grw
 refine wpo_assign (v := .slice (some ⟨B101, 0, none⟩) 0 0) rfl rfl ?_
 refine wpo_nil ?_
 refine Xh ?_
 refine Xa ?_
 refine wpo_assign (v := .int .i64 0) rfl rfl ?_
 refine wpo_nil ?_
 refine Xu ?_
 refine Yf (fun mm f' w' => ∃ (k : Nat) (Bt : Nat) (ct : Nat) (ys : List MTh), mm = ms.length - k ∧ k ≤ ms.length ∧ ys.length = k ∧ tabT ys = (tabT ms).take k ∧ RowsO 74 3 w.heap.size w' ys ∧ Dw.Own w' Bt 35 8 ct ys.length (ys.flatMap MTh.cells) ∧ w.heap.size ≤ Bt ∧ f' 3 = .slice (some ⟨Bt, 0, none⟩) ys.length ct ∧ f' 4 = .int .i64 (k : Int) ∧ f' 0 = .slice a ms.length c ∧ f' 2 = .slice none 0 0 ∧ w.grownBy w' none) (ms.length - 0) ⟨0, B101, 0, ([] : List MTh), rfl, (Nat.zero_le _), rfl, rfl, RowsO.nil, (Own.rows Y6 hN103.blk (by simp)), hlB101, rfl, rfl, rfl, rfl, hb104⟩ ?_
 rintro mm f105 w106 ⟨k, Bt, ct, ys, hm108, hk, hyk, hyt, hRO, hOt, hlBt, e109, e110, e111, e112, hb107⟩
 obtain ⟨hi, hhi⟩ : ∃ n, n = w106.heap.size := ⟨_, rfl⟩
 have hH3 := RowsO.hi hRO
 rw [← hhi] at hH3
 have hhw : w.heap.size ≤ hi := by rw [hhi]; exact hb107.size
 have hbt3 := hOt.lt
 refine Xh ?_
 refine Xa ?_
 refine wpo_move (v := .int .i64 (k : Int)) e110 rfl ?_
 refine wpo_move (v := .slice a ms.length c) e111 rfl ?_
 refine wpo_len (by kernel_rfl) rfl rfl ?_
 refine wpo_lss (q := decide ((k : Int) < (ms.length : Int))) rfl rfl rfl rfl ?_
 refine wpo_nil ?_
 refine Xp rfl (fun h113 => ?_) (fun h113 => ?_)
 ·
  have h114 := of_decide_eq_true h113
  refine Xm ?_
  refine Xo ?_
  refine Xh ?_
  refine Xu ?_
  refine Xa ?_
  refine wpo_move (v := .slice a ms.length c) e111 rfl ?_
  refine wpo_move (v := .int .i64 (k : Int)) e110 rfl ?_
  obtain ⟨b117, q118, o119, ha120, ho121, hr122⟩ := SlAt.at (TabAt.low ht hb107).1 (Yc (Xx (show k < ms.length by omega)))
  have hle123 := TabLen.at hlen (Xx (show k < ms.length by omega))
  refine Xz Jf rfl rfl ha120 ho121 (by omega) (by omega) rfl ?_
  refine wpo_loadn (vs := [.int .i64 ((mAt ms k).t.kind), .int .i64 ((mAt ms k).t.lab.s), .int .i64 ((mAt ms k).t.lab.v), .int .i64 ((mAt ms k).t.ve), .int .i64 ((mAt ms k).t.num), .slice ((mAt ms k).sa) ((mAt ms k).t.slots.length) ((mAt ms k).sc), .slice ((mAt ms k).qa) ((mAt ms k).t.queue.length) ((mAt ms k).qc), .int .i64 ((mAt ms k).t.to)]) X5 rfl rfl (Yq hr122 0 8 rfl) rfl ?_
  refine wpo_alloc (cs := #[.int .i64 0, .int .i64 0, .int .i64 0, .int .i64 0, .int .i64 0, .slice none 0 0, .slice none 0 0, .int .i64 0]) Jd rfl rfl ?_
  intro B124 w125 hN126
  have hlB124 := Xv hN126 hb107
  have hhiB124 : hi ≤ B124 := Nat.le_trans (Nat.le_of_eq hhi) hN126.ge
  have lt_Bt_B124 := Xr hN126 (hOt).lt
  have hb127 := low0 hb107 hN126.grw
  refine wpo_storen (vs := [.int .i64 ((mAt ms k).t.kind), .int .i64 ((mAt ms k).t.lab.s), .int .i64 ((mAt ms k).t.lab.v), .int .i64 ((mAt ms k).t.ve), .int .i64 ((mAt ms k).t.num), .slice ((mAt ms k).sa) ((mAt ms k).t.slots.length) ((mAt ms k).sc), .slice ((mAt ms k).qa) ((mAt ms k).t.queue.length) ((mAt ms k).qc), .int .i64 ((mAt ms k).t.to)]) (cs' := #[.int .i64 ((mAt ms k).t.kind), .int .i64 ((mAt ms k).t.lab.s), .int .i64 ((mAt ms k).t.lab.v), .int .i64 ((mAt ms k).t.ve), .int .i64 ((mAt ms k).t.num), .slice ((mAt ms k).sa) ((mAt ms k).t.slots.length) ((mAt ms k).sc), .slice ((mAt ms k).qa) ((mAt ms k).t.queue.length) ((mAt ms k).qc), .int .i64 ((mAt ms k).t.to)]) X5 rfl rfl rfl (by simp [Value.oneCell']) hN126.blk (Nat.le_of_ble_eq_true rfl) rfl ?_
  intro w128 hS129
  have hb130 := low1 hb127 hS129.grw (by omega)
  refine wpo_nil ?_
  refine Xa ?_
  refine wpo_buildSlice (ps := []) (e := 74) (cs := (([] : List Rt).flatMap Rt.cells).toArray) X9 (fun _ => by kernel_rfl) rfl ?_
  intro B131 w132 hN133
  have hlB131 := Xv hN133 hb130
  have hhiB131 : hi ≤ B131 := Nat.le_trans (Nat.le_trans (Nat.le_trans (Nat.le_of_eq hhi) hN126.grw.size) hS129.grw.size) hN133.ge
  have k134 := ((hOt.grown0 hN126.grw).gn hS129.grw)
  have lt_Bt_B131 := Xr hN133 (k134).lt
  have lt_B124_B131 := Xr hN133 (hS129.blk).lt
  have hb135 := low0 hb130 hN133.grw
  refine wpo_fieldAddr (o' := 5) Y7 rfl rfl rfl ?_
  have k136 := (hS129.blk.grown0 hN133.grw)
  refine wpo_load1 (v := .slice ((mAt ms k).sa) ((mAt ms k).t.slots.length) ((mAt ms k).sc)) Jl rfl (k136.cell rfl) rfl ?_
  have k137 := (k134.grown0 hN133.grw)
  refine wpo_appendN (g := Rt.cells) (ys := ([])) (zs := ((mAt ms k).t.slots)) (lo := hi) Rb rfl Y3 (by omega) Me rfl rfl (OwnN.of (Own.rows Y3 hN133.blk (by simp)) hhiB131) (TabAt.th (TabAt.low ht hb135) (Xx (show k < ms.length by omega))).1 (TabAt.th (TabAt.low ht hb135) (Xx (show k < ms.length by omega))).2.2.1 (by first | omega | exact Nat.le_of_ble_eq_true rfl | (simp only [List.length_nil, List.length_cons, List.length_append, List.length_replicate]; omega) | (simp only [List.length_drop, List.length_nil]; omega)) (by omega) (Nat.le_trans (Nat.le_trans (Nat.le_trans (Nat.le_of_eq hhi) hN126.grw.size) hS129.grw.size) hN133.grw.size) rfl ?_
  intro a138 cap139 w140 hO141 hg142 hor143
  have hg144 : World.grownBy w132 w140 (some B131) := hg142
  have hb145 := low1 hb135 hg144 (by omega)
  refine wpo_fieldAddr (o' := 5) Y7 rfl rfl rfl ?_
  have k146 := (k136.gn hg144)
  refine wpo_store1 (v := .slice a138 (((mAt ms k).t.slots).length) cap139) (cs' := #[.int .i64 ((mAt ms k).t.kind), .int .i64 ((mAt ms k).t.lab.s), .int .i64 ((mAt ms k).t.lab.v), .int .i64 ((mAt ms k).t.ve), .int .i64 ((mAt ms k).t.num), .slice a138 (((mAt ms k).t.slots).length) cap139, .slice ((mAt ms k).qa) ((mAt ms k).t.queue.length) ((mAt ms k).qc), .int .i64 ((mAt ms k).t.to)]) Jl rfl rfl rfl k146 (Nat.le_of_ble_eq_true rfl) rfl ?_
  intro w147 hS148
  have hb149 := low1 hb145 hS148.grw (by omega)
  refine wpo_nil ?_
  refine Xa ?_
  refine wpo_buildSlice (ps := []) (e := 3) (cs := (([] : List Int).flatMap icell).toArray) X9 (fun _ => by kernel_rfl) rfl ?_
  intro B150 w151 hN152
  have hlB150 := Xv hN152 hb149
  have hhiB150 : hi ≤ B150 := Nat.le_trans (Nat.le_trans (Nat.le_trans (Nat.le_trans (Nat.le_trans (Nat.le_trans (Nat.le_of_eq hhi) hN126.grw.size) hS129.grw.size) hN133.grw.size) hg144.size) hS148.grw.size) hN152.ge
  have k153 := ((k137.gn hg144).gn hS148.grw)
  have lt_Bt_B150 := Xr hN152 (k153).lt
  have lt_B124_B150 := Xr hN152 (hS148.blk).lt
  have hb154 := low0 hb149 hN152.grw
  refine wpo_fieldAddr (o' := 6) Qy rfl rfl rfl ?_
  have k155 := (hS148.blk.grown0 hN152.grw)
  refine wpo_load1 (v := .slice ((mAt ms k).qa) ((mAt ms k).t.queue.length) ((mAt ms k).qc)) J5 rfl (k155.cell rfl) rfl ?_
  have k156 := (k153.grown0 hN152.grw)
  refine wpo_appendN (g := icell) (ys := ([])) (zs := ((mAt ms k).t.queue)) (lo := hi) Dn rfl Qb (by omega) Rf rfl rfl (OwnN.of (Own.rows Qb hN152.blk (by simp)) hhiB150) (TabAt.th (TabAt.low ht hb154) (Xx (show k < ms.length by omega))).2.1 (TabAt.th (TabAt.low ht hb154) (Xx (show k < ms.length by omega))).2.2.2 (by first | omega | exact Nat.le_of_ble_eq_true rfl | (simp only [List.length_nil, List.length_cons, List.length_append, List.length_replicate]; omega) | (simp only [List.length_drop, List.length_nil]; omega)) (by omega) (Nat.le_trans (Nat.le_trans (Nat.le_trans (Nat.le_trans (Nat.le_trans (Nat.le_trans (Nat.le_of_eq hhi) hN126.grw.size) hS129.grw.size) hN133.grw.size) hg144.size) hS148.grw.size) hN152.grw.size) rfl ?_
  intro a157 cap158 w159 hO160 hg161 hor162
  have hg163 : World.grownBy w151 w159 (some B150) := hg161
  have hb164 := low1 hb154 hg163 (by omega)
  refine wpo_fieldAddr (o' := 6) Qy rfl rfl rfl ?_
  have k165 := (k155.gn hg163)
  refine wpo_store1 (v := .slice a157 (((mAt ms k).t.queue).length) cap158) (cs' := #[.int .i64 ((mAt ms k).t.kind), .int .i64 ((mAt ms k).t.lab.s), .int .i64 ((mAt ms k).t.lab.v), .int .i64 ((mAt ms k).t.ve), .int .i64 ((mAt ms k).t.num), .slice a138 (((mAt ms k).t.slots).length) cap139, .slice a157 (((mAt ms k).t.queue).length) cap158, .int .i64 ((mAt ms k).t.to)]) J5 rfl rfl rfl k165 (Nat.le_of_ble_eq_true rfl) rfl ?_
  intro w166 hS167
  have hb168 := low1 hb164 hS167.grw (by omega)
  refine wpo_nil ?_
  refine Xs ?_
  refine wpo_move (v := .slice (some ⟨Bt, 0, none⟩) ys.length ct) e109 rfl ?_
  refine wpo_loadn (vs := [.int .i64 ((mAt ms k).t.kind), .int .i64 ((mAt ms k).t.lab.s), .int .i64 ((mAt ms k).t.lab.v), .int .i64 ((mAt ms k).t.ve), .int .i64 ((mAt ms k).t.num), .slice a138 (((mAt ms k).t.slots).length) cap139, .slice a157 (((mAt ms k).t.queue).length) cap158, .int .i64 ((mAt ms k).t.to)]) X5 rfl rfl (hS167.blk.rangeL 0 8 rfl) rfl ?_
  refine wpo_buildSlice (ps := [(0, .agg #[.int .i64 ((mAt ms k).t.kind), .int .i64 ((mAt ms k).t.lab.s), .int .i64 ((mAt ms k).t.lab.v), .int .i64 ((mAt ms k).t.ve), .int .i64 ((mAt ms k).t.num), .slice a138 (((mAt ms k).t.slots).length) cap139, .slice a157 (((mAt ms k).t.queue).length) cap158, .int .i64 ((mAt ms k).t.to)])]) (e := 35) (cs := (([(⟨⟨(mAt ms k).t.kind, ((mAt ms k).t.lab), (mAt ms k).t.ve, (mAt ms k).t.num, ((mAt ms k).t.slots), ((mAt ms k).t.queue), (mAt ms k).t.to⟩, a138, cap139, a157, cap158⟩ : MTh)] : List MTh).flatMap MTh.cells).toArray) (Xw rfl X9) (fun _ => by kernel_rfl) rfl ?_
  intro B169 w170 hN171
  have hlB169 := Xv hN171 hb168
  have hhiB169 : hi ≤ B169 := Nat.le_trans (Nat.le_trans (Nat.le_trans (Nat.le_trans (Nat.le_trans (Nat.le_trans (Nat.le_trans (Nat.le_trans (Nat.le_trans (Nat.le_of_eq hhi) hN126.grw.size) hS129.grw.size) hN133.grw.size) hg144.size) hS148.grw.size) hN152.grw.size) hg163.size) hS167.grw.size) hN171.ge
  have k172 := ((k156.gn hg163).gn hS167.grw)
  have lt_Bt_B169 := Xr hN171 (k172).lt
  have lt_B124_B169 := Xr hN171 (hS167.blk).lt
  have hb173 := low0 hb168 hN171.grw
  have k174 := (k172.grown0 hN171.grw)
  have k175 := (hS167.blk.grown0 hN171.grw)
  refine wpo_append (g := MTh.cells) (ys := ys) (zs := ([(⟨⟨(mAt ms k).t.kind, ((mAt ms k).t.lab), (mAt ms k).t.ve, (mAt ms k).t.num, ((mAt ms k).t.slots), ((mAt ms k).t.queue), (mAt ms k).t.to⟩, a138, cap139, a157, cap158⟩ : MTh)] : List MTh)) Dm rfl Y6 (by omega) Hz rfl rfl k174 (Q0 Y6 hN171.blk) (by simp only [List.length_cons, List.length_nil]; omega) (by omega) rfl ?_
  intro B176 cap177 w178 hO179 hg180 hor181
  have hlB176 : w.heap.size ≤ B176 := by rcases hor181 with h | h; (rw [h]; exact hlBt); exact Nat.le_trans hb173.size h
  have ne_B124_B176 : B124 ≠ B176 := by have h := (k175).lt; omega
  have ne_B169_B176 : B169 ≠ B176 := by have h := (hN171.blk).lt; omega
  have hb182 := low1 hb173 hg180 (by omega)
  refine wpo_assign (v := .slice (some ⟨B176, 0, none⟩) ((ys ++ ([(⟨⟨(mAt ms k).t.kind, ((mAt ms k).t.lab), (mAt ms k).t.ve, (mAt ms k).t.num, ((mAt ms k).t.slots), ((mAt ms k).t.queue), (mAt ms k).t.to⟩, a138, cap139, a157, cap158⟩ : MTh)] : List MTh)).length) cap177) rfl rfl ?_
  refine wpo_nil ?_
  refine Je ?_
  refine Xo ?_
  refine Xs ?_
  refine wpo_move (v := .int .i64 (k : Int)) e110 rfl ?_
  refine wpo_add (c := (k : Int) + 1) rfl rfl (by omega) (by omega) (by omega) rfl ?_
  refine wpo_assign (v := .int .i64 ((k : Int) + 1)) rfl rfl ?_
  refine wpo_nil ?_
  refine Xo ?_
  have hS183 := (OwnN.typ ((OwnN.typB (OwnN.typ ((OwnN.typB hO141 hS148.grw k146 (by decide)).grown0 hN152.grw) hg163 (Own.rows Qb hN152.blk (by simp)) (by decide)) hS167.grw k165 (by decide)).grown0 hN171.grw) hg180 k174 (by decide))
  exact ⟨ms.length - (k + 1), by omega, (k + 1), B176, cap177, (ys ++ ([(⟨⟨(mAt ms k).t.kind, ((mAt ms k).t.lab), (mAt ms k).t.ve, (mAt ms k).t.num, ((mAt ms k).t.slots), ((mAt ms k).t.queue), (mAt ms k).t.to⟩, a138, cap139, a157, cap158⟩ : MTh)] : List MTh)), rfl, (by omega), (by rw [List.length_append, hyk]; rfl), (L4 hyt (Xx (show k < ms.length by omega)) rfl), (RowsO.snoc (RowsO.own (RowsO.low (RowsO.ge (RowsO.ge (RowsO.low (RowsO.ge (RowsO.ge (RowsO.low (RowsO.ge (RowsO.low hRO hN126.grw) hS129.grw hH3 (by omega)) hN133.grw) hg144 hH3 (by omega)) hS148.grw hH3 (by omega)) hN152.grw) hg163 hH3 (by omega)) hS167.grw hH3 (by omega)) hN171.grw) hg180 k174 (by decide) (by decide)) ⟨OwnN.mono (OwnN.typ ((OwnN.typB (OwnN.typ ((OwnN.typB hO141 hS148.grw k146 (by decide)).grown0 hN152.grw) hg163 (Own.rows Qb hN152.blk (by simp)) (by decide)) hS167.grw k165 (by decide)).grown0 hN171.grw) hg180 k174 (by decide)) hhw, OwnN.mono (OwnN.typ ((OwnN.typB hO160 hS167.grw k165 (by decide)).grown0 hN171.grw) hg180 k174 (by decide)) hhw⟩ hH3 (fun S e => (Nl hS183 e).2)), hO179, hlB176, rfl, rfl, e111, e112, hb182⟩
 ·
  have h184 := of_decide_eq_false h113
  refine Yo ?_
  refine Yz ?_
  refine Yz ?_
  refine Jn ?_
  refine Xo ?_
  refine Xa ?_
  refine wpo_move (v := .slice (some ⟨Bt, 0, none⟩) ys.length ct) e109 rfl ?_
  refine wpo_assign (v := .slice (some ⟨Bt, 0, none⟩) ys.length ct) rfl rfl ?_
  refine wpo_nil ?_
  refine Xk ?_
  exact ⟨.slice (some ⟨Bt, 0, none⟩) ys.length ct, res1 rfl rfl, Bt, ct, ys, rfl, R5 hyt (by omega), hlBt, hOt, hRO, hb107⟩
end Go.Dw.J
end
section
namespace Go.Dw.J
open Go.Dw Go.RowKit
open Go.Conc (G)
set_option linter.unusedVariables false
set_option linter.unusedSimpArgs false
set_option linter.unusedSectionVars false
inductive Tree
  | stop
  | node (kids : World → Tree)
def Tree.Kid (t' t : Tree) : Prop := ∃ k w, t = .node k ∧ t' = k w
theorem R8 : ∀ t : Tree, Acc Tree.Kid t
  | .stop => ⟨_, fun _ ⟨_, _, h, _⟩ => by cases h⟩
  | .node k => ⟨_, fun _ ⟨k', w, h, h'⟩ => by cases h; subst h'; exact R8 (k w)⟩
def chain : Nat → Tree
  | 0 => .stop
  | n + 1 => .node fun _ => chain n
theorem Gf (n : Nat) : Tree.Kid (chain n) (chain (n + 1)) := ⟨fun _ => chain n, default, rfl, rfl⟩
section
variable [Comp] {P : Program}
def Let (A w A' w' : World) (es : Array Event) : Prop := (A'.tape = A.tape ∧ Turns A w A' w' ∧ ∀ e ∈ es, EvOk A' e) ∨ Comp.sp A w A' w' es
def Fits (P : Program) (Stop : Goroutine → World → Prop) : Tree → Goroutine → World → Prop
  | .stop, g, A => Stop g A
  | .node k, g, A => g.status = .running ∧ ∀ w, Sees A w → Comp.inv A w → ∃ g' A' w' es, stepG P Comp.main g w = .go g' w' es ∧ Sees A' w' ∧ Let A w A' w' es ∧ ∃ A0, Ext A0 A' ∧ A'.tape = A0.tape ∧ Fits P Stop (k w) g' A0
def GoJ (P : Program) (Stop : Goroutine → World → Prop) (g : Goroutine) (A : World) : Prop := ∃ T A0, Ext A0 A ∧ A.tape = A0.tape ∧ Fits P Stop T g A0
theorem De {Stop : Goroutine → World → Prop} {g : Goroutine} {A : World} (h : Stop g A) : GoJ P Stop g A := ⟨.stop, A, Ext.refl A, rfl, h⟩
theorem S1 {Stop : Goroutine → World → Prop} (hok : Comp.ok (GoJ P Stop)) : Closed P (GoJ P Stop) := by
  refine ⟨fun g A h => ?_, fun g A A1 he ht ⟨T, A0, h1, h2, h3⟩ => ⟨T, A0, h1.trans he, ht.trans h2, h3⟩, hok⟩
  obtain ⟨hr, h⟩ := h
  have hch : ∀ w, ∃ T : Tree, Sees A w → Comp.inv A w → ∃ g' A' w' es, stepG P Comp.main g w = .go g' w' es ∧ Sees A' w' ∧ Let A w A' w' es ∧ ∃ A0, Ext A0 A' ∧ A'.tape = A0.tape ∧ Fits P Stop T g' A0 := fun w => by
    by_cases hs : Sees A w
    · by_cases hi : Comp.inv A w
      · obtain ⟨g', A', w', es, h1, h2, h3, T, A0, h4, h5, h6⟩ := h w hs hi
        exact ⟨T, fun _ _ => ⟨g', A', w', es, h1, h2, h3, A0, h4, h5, h6⟩⟩
      · exact ⟨.stop, fun _ h => absurd h hi⟩
    · exact ⟨.stop, fun h => absurd h hs⟩
  exact ⟨.node fun w => (hch w).choose, A, Ext.refl A, rfl, hr, fun w hs hi => (hch w).choose_spec hs hi⟩
end
def mkT (l : List Nat) : Tape := fun i _ => l.getD i 0
end Go.Dw.J
end
section
namespace Go.Dw.J
open Go.Dw Go.RowKit
open Go.Conc (G)
set_option linter.unusedVariables false
set_option linter.unusedSimpArgs false
set_option linter.unusedSectionVars false
section
variable [Comp] {P : Program}
def EntryR (P : Program) (k : FuncId) (args : Array Value) (A : World) (R : Value → World → Prop) : Prop := ∀ (ops : Array Oper) (o : Oper), Special P ops o (callFunc k args) A R
theorem Jw {k : FuncId} {fn : Func} {args : Array Value} {A : World} {R : Value → World → Prop} {e : Array Value → Sem Value} (hf : P.funcs[k]? = some fn) (hname : (fn.name == "runtime.NumGoroutine") = false) (hb : fn.body.isNone = true) (hn : Extern.findNext fn = none) (he : Extern.find fn = some e)
    (h : ∀ w, Sees A w → Comp.inv A w → ∃ v A' w' evs, (e args).run P w = .ok v w' ∧ (e args).events P w #[⟨.mark (.extern k), false, true⟩] = #[⟨.mark (.extern k), false, true⟩] ++ evs ∧ (∀ x ∈ evs, x.sync = true ∧ ∀ g, x.loc ≠ .mark (.extern g)) ∧ Sees A' w' ∧ Let A w A' w' evs ∧ R v A') :
    EntryR P k args A R := fun ops o J hJ b hbk i rest kk cs a o' ho hd hw hs hk => by
  refine hJ.step _ _ ⟨rfl, fun w h1 h2 => ?_⟩
  obtain ⟨v, A', w', evs, h3, h4, h5, h6, h7, h8⟩ := h w h1 h2
  have hr : (execOp a.eval o').run P w = .ok (.value v) w' := by rw [hs, Go.run_callFunc_extern hf hname hb hn he, h3]; rfl
  refine ⟨_, A', w', evs, ?_, h6, h7, hk v A' h8⟩
  rw [Ki ho hw hbk hr, hd]
  unfold Go.Conc.listed
  rw [hs, Go.Conc.events_callFunc_extern hf hname hb hn he]
  simp only [List.push_toArray, List.nil_append]
  rw [h4, Go.Conc.seen_entry _ _ _ h5]
variable {n : Nat} {ops : Array Oper} {K : Fr → World → Prop} {l : List Oper} {f : Fr} {w : World} {ty : TypeId} {pos : String} {aft : Array Edge} {d : Nat}
theorem Qs {k : FuncId} {args : Array Operand} {tys : Array TypeId} {vs : List Value} {R : Value → World → Prop} (ha : args.toList.map (ev f) = vs) (hd : Nat.blt d n = true) (hc : EntryR P k vs.toArray w R)
    (h : ∀ v w', R v w' → WpO P n ops K l (up f d v) w') : WpO P n ops K (⟨some d, .call ⟨.value (.func k), args, tys⟩, ty, pos, aft, none⟩ :: l) f w := fun a hfa => by
  have e1 : args.map (ev f) = vs.toArray := by rw [← ha]; apply Array.ext'; simp
  have e2 : execOp a.eval ⟨some d, .call ⟨.value (.func k), args, tys⟩, ty, pos, aft, none⟩ = callFunc k vs.toArray := by
    rw [Go.Conc.execOp_call_func (a := a) rfl, hfa.eval, e1]
  exact Or.inl ⟨by simp [Region.wanted], Or.inr ⟨R, by rw [e2]; exact hc ops _, fun v A' hR => ⟨_, hfa.put hd v, h v A' hR⟩⟩⟩
end
end Go.Dw.J
end
section
namespace Go.Dw.J
open Go.Dw Go.RowKit
open Go.Conc (G crowd Past Leavers EvL Deaf_other mem_ofEvents crowd_pick awake_of woken_quitsD woken_run runT_crowd_go runT_many_ended Deaf_own)
open Go.ConcN (sumTo upd sumTo_upd upd_ne upd_same)
set_option linter.unusedVariables false
set_option linter.unusedSimpArgs false
set_option linter.unusedSectionVars false
def Runs (P : Program) (Post : Value → World → Prop) (m : Machine) (t : Trace) : Prop :=
  ∃ N last o w' t', runNT P (N + 1) m t = (.ended o w', t') ∧ runN P N m = .next last ∧ step P last = .ended o w' ∧ Go.Conc.Good P Post last o w' t'
theorem Runs.step {P : Program} {Post : Value → World → Prop} {m m' : Machine} {t : Trace} {ops : Array MemOp} (hs : stepT P m = (.next m', ops)) (h : Runs P Post m' (t ++ ops)) : Runs P Post m t := by
  obtain ⟨N, last, o, w', t', h1, h2, h3, h4⟩ := h
  exact ⟨N + 1, last, o, w', t', by rw [runNT_succ_next hs]; exact h1, by rw [runN_succ_next hs]; exact h2, h3, h4⟩
theorem He {A w : World} (h : Sees A w) (d : Nat) : Sees A (w.at d) := ⟨h.os, h.output, h.size, h.vis, h.nv⟩
class KeepD where
  B0 : Nat
  Wi : World
def Keep [KeepD] (A w : World) : Prop := KeepD.B0 ≤ w.heap.size ∧ ∀ b, b < KeepD.B0 → (Seen A b ∧ A.heap[b]? = w.heap[b]?) ∨ (¬ Seen A b ∧ w.heap[b]? = KeepD.Wi.heap[b]?)
theorem Keep.turns [KeepD] {A w A' w' : World} (h : Keep A w) (hT : Turns A w A' w') : Keep A' w' :=
  ⟨Nat.le_trans h.1 hT.le, fun b hb => (h.2 b hb).elim (fun ⟨h1, h2⟩ => .inl ⟨hT.see b h1, hT.eq b h1 h2⟩) fun ⟨h1, h2⟩ => .inr ⟨(hT.hid b (Nat.lt_of_lt_of_le hb h.1) h1).2, (hT.hid b (Nat.lt_of_lt_of_le hb h.1) h1).1.trans h2⟩⟩
def inBlk (b : Nat) : Loc → Prop
  | .cell a => a.block = b
  | .obj r => r = b
  | _ => False
structure BesInv [KeepD] (P : Program) (g : Goroutine) (A : World) (gs : Array Goroutine) (w : World) (t : Trace) (q : Nat → Nat) (Shun : Loc → Prop) : Prop where
  at0 : gs[0]? = some g
  tape : A.tape = mkT []
  gsz : ∀ op ∈ t, op.g < gs.size
  sees : Sees A w
  old : Leavers P t gs q
  past : Past Shun w.heap.size t
  quiet : Go.Conc.Quiet Shun t
  hid : ∀ l b, Shun l → inBlk b l → b < w.heap.size ∧ ¬ Seen A b
  lies : ∀ l, Shun l → ∃ b, inBlk b l
  keep : Keep A w
def Bes [KeepD] (P : Program) (Post : Value → World → Prop) (g : Goroutine) (A : World) : Prop :=
  ∀ gs w sl t q Shun, BesInv P g A gs w t q Shun → Runs P Post (crowd gs w sl) t
theorem Wt {t : Trace} {n g : Nat} {fn : FuncId} {pos : String} {es : Array Event} (h : ∀ op ∈ t, op.g < n) (hg : g < n) : ∀ op ∈ t ++ MemOp.ofEvents g fn pos es, op.g < n := fun op hop => by
  rcases Array.mem_append.1 hop with h1 | h1
  · exact h op h1
  · obtain ⟨e, _, rfl⟩ := Go.Conc.mem_ofEvents h1
    exact hg
theorem Wr {A w : World} {e : Event} {Shun : Loc → Prop} (h : EvOk A e) (hA : A.heap.size ≤ w.heap.size) (hS : ∀ l b, Shun l → inBlk b l → ¬ Seen A b) : EvL Shun w.heap.size e ∧ ∀ x, (MemAct.ofEvent e).touch? = some x → ¬ Shun x.loc := by
  cases h with
  | read h =>
    rename_i a
    have hn : ¬ Shun (.cell a) := fun hs => hS _ a.block hs rfl h
    refine ⟨⟨fun x hx hs => ?_, by simp, by simp, Nat.lt_of_lt_of_le h.1 hA⟩, fun x hx => ?_⟩ <;> (simp [MemAct.ofEvent, MemAct.touch?] at hx; subst hx)
    · exact absurd hs hn
    · exact hn
  | write h h2 =>
    rename_i a
    have hn : ¬ Shun (.cell a) := fun hs => hS _ a.block hs rfl h
    refine ⟨⟨fun x hx hs => ?_, by simp, by simp, Nat.lt_of_lt_of_le h.1 hA⟩, fun x hx => ?_⟩ <;> (simp [MemAct.ofEvent, MemAct.touch?] at hx; subst hx)
    · exact absurd hs hn
    · exact hn
  | obj h h2 =>
    rename_i r wr
    have hn : ¬ Shun (.obj r) := fun hs => hS _ r hs rfl h
    have e : MemAct.ofEvent ⟨.obj r, wr, false⟩ = .access ⟨.obj r, wr, false⟩ := by cases wr <;> rfl
    refine ⟨⟨fun x hx hs => ?_, by simp, by simp, by rw [e]; exact Nat.lt_of_lt_of_le h.1 hA⟩, fun x hx => ?_⟩ <;> (rw [e] at hx; simp [MemAct.touch?] at hx; subst hx)
    · exact absurd hs hn
    · exact hn
  | room => exact ⟨⟨fun x hx => by simp [MemAct.ofEvent, MemAct.touch?] at hx, by simp, by simp, trivial⟩, fun x hx => by simp [MemAct.ofEvent, MemAct.touch?] at hx⟩
end Go.Dw.J
end
section
namespace Go.Dw.J
open Go.Dw Go.RowKit
open Go.Conc (G crowd Past Leavers EvL Deaf Deaf_other mem_ofEvents crowd_pick awake awake_of woken woken_quitsD woken_run runT_crowd_go runT_many_ended Deaf_own)
open Go.ConcN (sumTo upd sumTo_upd upd_ne upd_same)
set_option linter.unusedVariables false
set_option linter.unusedSimpArgs false
set_option linter.unusedSectionVars false
@[instance_reducible] def comp0 (OK : (Goroutine → World → Prop) → Prop) : Comp := { main := true, inv := fun _ _ => True, sp := fun _ _ _ _ _ => False, ok := OK }
section
variable {P : Program} {Post : Value → World → Prop}
theorem Keep.ext [KeepD] {A A1 w : World} (h : Keep A1 w) (he : Ext A A1) : Keep A w := ⟨h.1, fun b hb => (h.2 b hb).elim (fun ⟨h1, h2⟩ => by
    have h3 : Seen A b := by
      obtain ⟨h4, h5⟩ := h1
      rcases Nat.lt_or_ge b A.heap.size with h6 | h6
      · exact ⟨h6, by rw [← he.get h6]; exact h5⟩
      · exact absurd (he.new h6 h4) h5
    exact .inl ⟨h3, (he.get h3.1).symm.trans h2⟩) fun ⟨h1, h2⟩ => .inr ⟨fun h3 => h1 ⟨Nat.lt_of_lt_of_le h3.1 he.size, by rw [he.get h3.1]; exact h3.2⟩, h2⟩⟩
theorem Ch {A w A' w' : World} (h : Turns A w A' w') {Shun : Loc → Prop} (hS : ∀ l b, Shun l → inBlk b l → b < w.heap.size ∧ ¬ Seen A b) : ∀ l b, Shun l → inBlk b l → b < w'.heap.size ∧ ¬ Seen A' b := fun l b h1 h2 =>
  ⟨Nat.lt_of_lt_of_le (hS l b h1 h2).1 h.le, (h.hid b (hS l b h1 h2).1 (hS l b h1 h2).2).2⟩
theorem Ub {Shun : Loc → Prop} {t : Trace} {g : Nat} {fn : FuncId} {pos : String} {es : Array Event} (h : Go.Conc.Quiet Shun t) (hes : ∀ e ∈ es, ∀ x, (MemAct.ofEvent e).touch? = some x → ¬ Shun x.loc) : Go.Conc.Quiet Shun (t ++ MemOp.ofEvents g fn pos es) :=
  h.app fun op hop x hx hs => by
    obtain ⟨e, he, rfl⟩ := Go.Conc.mem_ofEvents hop
    exact absurd hs (hes e he x hx)
theorem S6 {e : Event} (h : e.mute = true) : (MemAct.ofEvent e).touch? = none := Go.Conc.touch_mute h
def Next0 (P : Program) (Post : Value → World → Prop) (gs : Array Goroutine) (w : World) (sl : Option (Nat × Nat)) (t : Trace) : Prop :=
  (∃ m ops, runT P (crowd gs w sl) 0 = (.next m, ops) ∧ Runs P Post m (t ++ ops)) ∨ (∃ o w' ops, runT P (crowd gs w sl) 0 = (.ended o w', ops) ∧ ∀ w0 sl0, Go.Conc.Good P Post (crowd gs w0 sl0) o w' (t ++ ops))
theorem Va {gs : Array Goroutine} {w w1 : World} {sl sl1 : Option (Nat × Nat)} {t : Trace} (hst : stepT P (crowd gs w sl) = runT P (crowd gs w1 sl1) 0) (h : Next0 P Post gs w1 sl1 t) : Runs P Post (crowd gs w sl) t := by
  rcases h with ⟨m, ops, h1, h2⟩ | ⟨o, w', ops, h1, h2⟩
  · exact Runs.step (hst.trans h1) h2
  · have hs := hst.trans h1
    exact ⟨0, _, o, w', t ++ ops, by simp [runNT, hs], rfl, by simp [step, hs], h2 w sl⟩
variable [KeepD]
theorem Hn {g : Goroutine} {A : World} (hr : g.status = .running) (h : ∀ gs w sl t q Shun, BesInv P g A gs w t q Shun → Next0 P Post gs w sl t) : Bes P Post g A := by
  have key : ∀ (M : Nat) (gs : Array Goroutine) (w : World) (sl : Option (Nat × Nat)) (t : Trace) (q : Nat → Nat) (Shun : Loc → Prop), sumTo gs.size q ≤ M → BesInv P g A gs w t q Shun → Runs P Post (crowd gs w sl) t := by
    intro M
    induction M with
    | zero =>
      intro gs w sl t q Shun hM I
      have haw : ∀ x ∈ gs, awake x := by
        intro x hx
        obtain ⟨i, hi, rfl⟩ := Array.mem_iff_getElem.1 hx
        rcases Nat.eq_zero_or_pos i with rfl | hpos
        · have : gs[0] = g := by simpa [Array.getElem?_eq_getElem hi] using I.at0
          rw [this]; exact awake_of (.inl hr)
        · exact awake_of ((I.old.old i _ hpos (Array.getElem?_eq_getElem hi)).status.elim .inl fun x => .inr (.inr x))
      obtain ⟨i, x, d, sl', hi, hg, hst⟩ := crowd_pick (P := P) (w := w) (sl := sl) haw ⟨0, g, I.at0, hr⟩
      rcases Nat.eq_zero_or_pos i with rfl | hpos
      · exact Va hst (h gs (w.at d) sl' t q Shun ⟨I.at0, I.tape, I.gsz, He I.sees d, I.old, I.past, I.quiet, I.hid, I.lies, I.keep⟩)
      · have hq := I.old.old i x hpos hi
        have hlt : i < gs.size := (Array.getElem?_eq_some_iff.1 hi).1
        have hle := Go.ConcN.le_sumTo (f := q) hlt
        have h0 : q i = 0 := by omega
        rw [h0] at hq
        rw [hq.1] at hg; cases hg
    | succ M ih =>
      intro gs w sl t q Shun hM I
      have haw : ∀ x ∈ gs, awake x := by
        intro x hx
        obtain ⟨i, hi, rfl⟩ := Array.mem_iff_getElem.1 hx
        rcases Nat.eq_zero_or_pos i with rfl | hpos
        · have : gs[0] = g := by simpa [Array.getElem?_eq_getElem hi] using I.at0
          rw [this]; exact awake_of (.inl hr)
        · exact awake_of ((I.old.old i _ hpos (Array.getElem?_eq_getElem hi)).status.elim .inl fun x => .inr (.inr x))
      obtain ⟨i, x, d, sl', hi, hg, hst⟩ := crowd_pick (P := P) (w := w) (sl := sl) haw ⟨0, g, I.at0, hr⟩
      rcases Nat.eq_zero_or_pos i with rfl | hpos
      · exact Va hst (h gs (w.at d) sl' t q Shun ⟨I.at0, I.tape, I.gsz, He I.sees d, I.old, I.past, I.quiet, I.hid, I.lies, I.keep⟩)
      · have hq := I.old.old i x hpos hi
        have hi0 : (i == 0) = false := by simp; omega
        have hlt : i < gs.size := (Array.getElem?_eq_some_iff.1 hi).1
        cases hqi : q i with
        | zero => rw [hqi] at hq; rw [hq.1] at hg; cases hg
        | succ k =>
          rw [hqi] at hq
          rcases hq with ⟨hf, _⟩ | ⟨_, g', es, hm, hstp, hq'⟩
          · rw [hf] at hg; cases hg
          have hrunT := runT_crowd_go (P := P) (sl := sl') (i := i) hi (by rw [hi0]; exact hstp (w.at d))
          have hsz : ((gs.map (woken P x g' (w.at d))).setIfInBounds i g').size = gs.size := by simp
          have hsum : sumTo gs.size (upd q i k) + (k + 1) = sumTo gs.size q + k := by
            have := sumTo_upd q k id hlt
            simpa [hqi] using this
          refine Runs.step (hst.trans hrunT) (ih _ _ _ _ (upd q i k) Shun (by rw [hsz]; omega) ⟨?_, I.tape, Wt (by rw [hsz]; exact I.gsz) (by rw [hsz]; exact hlt), He I.sees d, ⟨fun j y hj hy => ?_, fun j hj => ?_⟩, I.past.mute (by omega) hm, Ub I.quiet (fun e he x hx => by rw [S6 (hm e he)] at hx; cases hx), I.hid, I.lies, I.keep⟩)
          · have hne : i ≠ 0 := by omega
            rw [Array.getElem?_setIfInBounds_ne hne, Array.getElem?_map, I.at0]
            simp [woken_run hr]
          · by_cases hji : i = j
            · subst hji
              rw [Array.getElem?_setIfInBounds_self_of_lt (by simpa using hlt)] at hy
              obtain rfl := Option.some.inj hy
              rw [upd_same, Deaf_own]
              exact hq'
            · rw [Array.getElem?_setIfInBounds_ne hji, Array.getElem?_map] at hy
              obtain ⟨z, hz, rfl⟩ := Option.map_eq_some_iff.1 hy
              have hqj := I.old.old j z hj hz
              rw [woken_quitsD hqj, upd_ne q k (Ne.symm hji), Deaf_other t hji _ (fun op hop => by obtain ⟨e, _, rfl⟩ := Go.Conc.mem_ofEvents hop; rfl)]
              exact hqj
          · rw [Deaf_other t (g' := i) (by simp at hj; omega) _ (fun op hop => by obtain ⟨e, _, rfl⟩ := Go.Conc.mem_ofEvents hop; rfl)]
            exact I.old.above j (by simpa using hj)
  exact fun gs w sl t q Shun I => key _ gs w sl t q Shun (Nat.le_refl _) I
theorem Ks (OK : (Goroutine → World → Prop) → Prop) (hok : OK (Bes P Post)) : @Closed (comp0 OK) P (Bes P Post) := by
  letI := comp0 OK
  refine ⟨fun g A ⟨hr, h⟩ => Hn hr fun gs w sl t q Shun I => ?_, fun g A A1 he ht hJ gs w sl t q Shun I => hJ gs w sl t q Shun ⟨I.at0, ht.symm.trans I.tape, I.gsz, I.sees.ext he, I.old, I.past, I.quiet, fun l b h1 h2 => ⟨(I.hid l b h1 h2).1, fun hs => (I.hid l b h1 h2).2 ⟨Nat.lt_of_lt_of_le hs.1 he.size, by rw [he.get hs.1]; exact hs.2⟩⟩, I.lies, I.keep.ext he⟩, hok⟩
  obtain ⟨g', A', w', es, h1, h2, h3, h4⟩ := h w I.sees trivial
  rcases h3 with ⟨hta, hT, hE⟩ | h3
  · have hrunT := runT_crowd_go (P := P) (sl := sl) (i := 0) I.at0 (show stepG P (0 == 0) g w = _ from h1)
    have hlt : 0 < gs.size := (Array.getElem?_eq_some_iff.1 I.at0).1
    have hid' := Ch hT I.hid
    have hev := fun e he => Wr (hE e he) h2.size (Shun := Shun) fun l b x y => (hid' l b x y).2
    refine Or.inl ⟨_, _, hrunT, h4 _ _ _ _ q Shun ⟨by simp [hlt], hta.trans I.tape, Wt (by simpa using I.gsz) (by simpa using hlt), h2, ⟨fun j x hj hx => ?_, fun j hj => ?_⟩, (I.past.mono hT.le).own fun e he => (hev e he).1, Ub I.quiet fun e he => (hev e he).2, hid', I.lies, I.keep.turns hT⟩⟩
    · have hne : 0 ≠ j := by omega
      rw [Array.getElem?_setIfInBounds_ne hne, Array.getElem?_map] at hx
      obtain ⟨y, hy, rfl⟩ := Option.map_eq_some_iff.1 hx
      have hq := I.old.old j y hj hy
      rw [woken_quitsD hq, Deaf_other t (by omega) _ (fun op hop => by obtain ⟨e, _, rfl⟩ := Go.Conc.mem_ofEvents hop; rfl)]
      exact hq
    · rw [Deaf_other t (g' := 0) (by simp at hj; omega) _ (fun op hop => by obtain ⟨e, _, rfl⟩ := Go.Conc.mem_ofEvents hop; rfl)]
      exact I.old.above j (by simpa using hj)
  · exact h3.elim
theorem E2 {g : Goroutine} {A : World} {v : Value} (hr : g.status = .running) (h : ∀ w, Sees A w → Keep A w → ∃ w' es, stepG P true g w = .ended (.done v) w' es ∧ (∀ e ∈ es, EvOk A e) ∧ Post v w') : Bes P Post g A :=
  Hn hr fun gs w sl t q Shun I => by
    obtain ⟨w', es, h1, h2, h3⟩ := h w I.sees I.keep
    have hrunT := runT_many_ended (P := P) (sl := sl) (i := 0) I.at0 (show stepG P (0 == 0) g w = _ from h1)
    have hev := fun e he => Wr (h2 e he) I.sees.size (Shun := Shun) fun l b x y => (I.hid l b x y).2
    have hP' := I.past.own (fn := g.frame.fn) (pos := g.frame.place) (es := es) fun e he => (hev e he).1
    refine Or.inr ⟨_, _, _, hrunT, fun w0 sl0 => ⟨v, rfl, h3, hP'.clean, hP'.over, ⟨fun x hx => ?_, rfl⟩, fun j x hx hj => ?_⟩⟩
    · obtain ⟨j, hj⟩ := List.mem_iff_getElem?.1 hx
      rw [List.getElem?_drop] at hj
      exact ⟨_, (I.old.old (1 + j) x (by omega) (by simpa [crowd] using hj)).leaves⟩
    · have hq := I.old.old j x (by omega) hx
      refine ⟨q j, ?_⟩
      have e : (t ++ MemOp.ofEvents 0 g.frame.fn g.frame.place es).deaf j (t ++ MemOp.ofEvents 0 g.frame.fn g.frame.place es).size = Deaf t j :=
        Deaf_other t (g := j) (g' := 0) (by omega) _ (fun op hop => by obtain ⟨e, _, rfl⟩ := Go.Conc.mem_ofEvents hop; rfl)
      rw [e]
      exact hq.hears _
end
end Go.Dw.J
end
section
namespace Go.Dw.J
open Go.Dw Go.RowKit
open Go.Conc (G crowd solo Past Leavers)
set_option linter.unusedVariables false
set_option linter.unusedSimpArgs false
set_option linter.unusedSectionVars false
def seeO : Obj → Obj
  | .view _ _ => pz
  | o => o
def seeAll (W : World) : World := { W with heap := W.heap.map seeO, tape := mkT [] }
theorem J0 (W : World) (b : Nat) : (seeAll W).heap[b]? = (W.heap[b]?).map seeO := by simp [seeAll]
theorem R3 (W : World) : Sees (seeAll W) W := by
  refine ⟨rfl, rfl, by simp [seeAll], fun b hb => ?_, fun b at_ u e => ?_⟩
  · rw [J0]
    cases h : W.heap[b]? with
    | none => exact Or.inl rfl
    | some o => cases o <;> first | exact Or.inl rfl | exact Or.inr (Or.inl rfl)
  · rw [J0] at e
    cases h : W.heap[b]? with
    | none => rw [h] at e; cases e
    | some o => rw [h] at e; cases o <;> cases e
theorem N4 {W : World} {b : Nat} {c : Array Value} {T : TypeId} {fr : Nat × Nat} (h : W.heap[b]? = some (.cells c T fr)) : (seeAll W).heap[b]? = some (.cells c T fr) := by
  rw [J0, h]; rfl
theorem R1 {W : World} {a : Addr} {v : Value} (h : W.cell? a = some v) : (seeAll W).cell? a = some v := by
  obtain ⟨c, T, fr, h1, h2, h3⟩ := Kt h
  exact Uj (N4 h1) h2 h3
section
variable [KeepD] {P : Program} {Post : Value → World → Prop}
theorem Tk {g : Goroutine} {W : World} (hk : Keep (seeAll W) W) (h : Bes P Post g (seeAll W)) : Runs P Post (solo g W) #[] := by
  rw [Go.Conc.solo_eq_crowd]
  exact h #[g] W none #[] (fun _ => 0) (fun _ => False) ⟨rfl, rfl, by simp, R3 W, Go.Conc.leavers_one P g, Go.Conc.past_nil.mono (Nat.zero_le _), fun i op x hi => by simp at hi, fun l b h => h.elim, fun l h => h.elim, hk⟩
theorem E4 (OK : (Goroutine → World → Prop) → Prop) (hok : OK (Bes P Post)) {k : FuncId} {fn : Func} {c : Code} {args : Array Value} {A : World} {R : Value → World → Prop} {n : Nat}
    (hf : P.funcs[k]? = some fn) (hb : fn.body = some c) (hn : fn.ntmps = n) (hs : Nat.ble args.size n = true) (hin : P.inits.idxOf? k = none) (hpost : ∀ v A' w, R v A' → Sees A' w → Keep A' w → Post v w)
    (h : @Wpf (comp0 OK) P n (endQ P fn R) c (f0 args) A) : Bes P Post (G (Frame.enter P k args .normal) []) A := by
  letI := comp0 OK
  have hJ : Closed P (Bes P Post) := Ks OK hok
  have hs' : args.size ≤ n := by simpa [Nat.ble_eq] using hs
  rw [Go.Conc.enter_at args hf hb, ← Hl (b := Go.Conc.base k) rfl rfl]
  have leave : ∀ (a' : Act) (f' : Fr) (A' : World) (todo : List Item), FEq n a' f' → (∃ v, resV P fn f' A' v ∧ R v A') → Bes P Post (G { ato (Go.Conc.base k) a' todo with mode := .returning } []) A' := fun a' f' A' todo hf' ⟨v, hv, hR⟩ => by
    refine E2 (v := v) rfl fun w hsee hkeep => ?_
    have hr := hv (runW A' w) (Qa A' w) _ hf'.at_
    have h1 := Sem.runT_fst P (results fn a'.tmps) (runW A' w) #[]
    rw [hr] at h1
    obtain ⟨w', k1, k2, k3, k4⟩ := frame (results fn a'.tmps) (Ly fn a'.tmps) hsee.hid (x := v) (A' := runW A' w) (es' := ((results fn a'.tmps).runT P (runW A' w) #[]).2) (Prod.ext h1 rfl)
    obtain ⟨e1, e2⟩ := Gk k1
    refine ⟨w', seen P k ((results fn a'.tmps).runT P (runW A' w) #[]).2, ?_, fun e he => ?_, hpost v A' w' hR (Sees.ext k2.sees (Qa A' w)) ((hkeep.turns (Uf hsee k3 k2)).ext (Qa A' w).norm)⟩
    · have hd : a'.defers = [] := hf'.defers
      have hd0 : (default : Frame).defers = [] := rfl
      simp [G, stepG, unwind, doReturn, ato, Go.Conc.base, hd, hd0, hf, e1, e2, GStep.after, hin]
    · have h5 := Go.Conc.mem_seen he
      obtain ⟨r, h6, h7⟩ := k4
      rw [h6] at h5
      have h8 := h7 e (by simpa using h5)
      cases h8 with
      | read h => exact .read ((Ud _).1 h)
      | write h h2 => exact .write ((Ud _).1 h) (fun x => h2 (Ti x))
      | obj h h2 => exact .obj ((Ud _).1 h) (fun x => h2 (Ti x))
      | room => exact .room
  refine h (Bes P Post) hJ (Go.Conc.base k) (by simp [Go.Conc.base]) [] [] _ ⟨rfl, by simp [hn]; omega, fun i => ?_⟩ fun e a' f' A' hf' hQ => ?_
  · simp only [f0, Uo, Array.getD_eq_getD_getElem?, Array.getElem?_toList]
    by_cases hi : i < args.size
    · rw [Array.getElem?_append_left hi]
    · rw [Array.getElem?_append_right (by omega), Array.getElem?_eq_none (by omega : args.size ≤ i)]
      by_cases h2 : i - args.size < fn.ntmps - args.size
      · simp [h2]
      · rw [Array.getElem?_eq_none (by simp; omega)]
  · cases e with
    | normal => exact hJ.move rfl (fun w => Gn rfl) (leave a' f' A' _ hf' hQ)
    | ret => exact fun k2 => hJ.move rfl (fun w => Vh rfl) (leave a' f' A' _ hf' hQ)
    | exit i => exact hQ.elim
    | goto l => exact hQ.elim
    | panic c => exact hQ.elim
    | outgrown => exact hQ.elim
end
end Go.Dw.J
end
section
namespace Go.Dw.J
open Go.Dw Go.RowKit
open Go.Conc (G)
set_option linter.unusedVariables false
set_option linter.unusedSimpArgs false
set_option linter.unusedSectionVars false
def RBlk (w : World) (b : Nat) (T : TypeId) (cs : Array Value) : Prop := ∃ fr, w.heap[b]? = some (.cells cs T fr)
section
variable {w w' : World} {b : Nat} {T : TypeId} {cs : Array Value}
theorem RBlk.lt (h : RBlk w b T cs) : b < w.heap.size := let ⟨_, e⟩ := h; (Array.getElem?_eq_some_iff.1 e).1
theorem RBlk.cell (h : RBlk w b T cs) {i : Nat} {v : Value} (hv : cs[i]? = some v) : w.cell? ⟨b, i, none⟩ = some v := let ⟨_, e⟩ := h; Uj e rfl hv
theorem RBlk.range (h : RBlk w b T cs) {o : Nat} {vs : List Value} (hv : ∀ j v, vs[j]? = some v → cs[o + j]? = some v) : w.rangeAt b o vs := fun j v hj => h.cell (hv j v hj)
theorem RBlk.grown (h : RBlk w b T cs) {r : Option Nat} (hg : w.grownBy w' r) (hne : some b ≠ r) : RBlk w' b T cs := let ⟨fr, e⟩ := h; ⟨fr, (hg.block b h.lt hne).trans e⟩
theorem RBlk.grown0 (h : RBlk w b T cs) (hg : w.grownBy w' none) : RBlk w' b T cs := h.grown hg (by simp)
theorem RBlk.rangeL (h : RBlk w b T cs) (o k : Nat) {vs : List Value} (e : (cs.toList.drop o).take k = vs) : w.rangeAt b o vs :=
  h.range fun j v hj => by
    rw [← e, List.getElem?_take] at hj
    split at hj
    · rw [List.getElem?_drop] at hj; simpa using hj
    · cases hj
end
def g0 (A : World) : Nat := A.tape 0 .zeroSizeEq
def putRow (cs : Array Value) (sz k : Nat) (vs : List Value) : Array Value := (cs.toList.take (k * sz) ++ vs ++ cs.toList.drop (k * sz + sz)).toArray
def blind (A : World) : World := { A with heap := Array.replicate A.heap.size pz, tape := mkT [1] }
theorem Sn {A w w' : World} (h : Sees A w) (ho : w'.os = w.os) (hp : w'.output = w.output) (hs : w.heap.size ≤ w'.heap.size) : Sees (blind A) w' := by
  refine ⟨h.os.trans ho.symm, h.output.trans hp.symm, ?_, fun b hb => Or.inr (Or.inl ?_), fun b at_ u e => ?_⟩
  · simpa [blind] using Nat.le_trans h.size hs
  · have : b < A.heap.size := by simpa [blind] using hb
    simp [blind, this]
  · by_cases hb : b < A.heap.size
    · simp [blind, hb, pz] at e
    · simp [blind, hb] at e
theorem Sm {A : World} {b : Nat} : ¬ Seen (blind A) b := by
  rintro ⟨h1, h2⟩
  have : b < A.heap.size := by simpa [blind] using h1
  exact h2 (by simp [blind, this])
def hideB (A : World) (b : Nat) : World := { A with heap := A.heap.setIfInBounds b pz }
theorem Ka {A : World} {b c : Nat} (h : c ≠ b) : (hideB A b).heap[c]? = A.heap[c]? := by simp [hideB, Array.getElem?_setIfInBounds_ne (Ne.symm h)]
theorem Hw {A w : World} (h : Sees A w) (b : Nat) : Sees (hideB A b) w := by
  refine ⟨h.os, h.output, by simpa [hideB] using h.size, fun c hc => ?_, fun c at_ u e => ?_⟩
  · by_cases e : c = b
    · subst e
      exact Or.inr (Or.inl (by simp [hideB] at hc; simp [hideB, hc]))
    · rw [Ka e]; exact h.vis c (by simpa [hideB] using hc)
  · by_cases e2 : c = b
    · subst e2
      by_cases hc : c < A.heap.size
      · simp [hideB, hc, pz] at e
      · simp [hideB, hc] at e
    · rw [Ka e2] at e; exact h.nv _ _ _ e
theorem Jy {A : World} {b c : Nat} (h : Seen (hideB A b) c) : Seen A c ∧ c ≠ b := by
  obtain ⟨h1, h2⟩ := h
  have h3 : c < A.heap.size := by simpa [hideB] using h1
  by_cases e : c = b
  · subst e; exact absurd (by simp [hideB, h3]) h2
  · rw [Ka e] at h2; exact ⟨⟨h3, h2⟩, e⟩
structure RowStep (C n sz k : Nat) (TT : TypeId) (Out : List Value → World → Prop) (bx : Nat) (val : Value) (ety : TypeId) (A w A' w' : World) (es : Array Event) : Prop where
  g0 : g0 A = 0
  new : A' = blind A
  box : A.heap[bx]? = some (.cells #[val] ety (0, 0))
  row : ∃ cs vs, w.heap[C]? = some (.cells cs TT (0, 0)) ∧ cs.size = n * sz ∧ vs.length = sz ∧ Out vs (hideB A bx) ∧ w' = w.setRow C (putRow cs sz k vs)
  evs : ∀ e ∈ es, ∃ j, j < sz ∧ e = ⟨.cell ⟨C, k * sz + j, none⟩, true, false⟩
@[instance_reducible] def compW (C n sz k : Nat) (TT : TypeId) (Out : List Value → World → Prop) (bx : Nat) (val : Value) (ety : TypeId) : Comp where
  main := false
  inv A w := g0 A = 0 → n ≠ 0 → ∃ cs, w.heap[C]? = some (.cells cs TT (0, 0)) ∧ cs.size = n * sz
  sp := RowStep C n sz k TT Out bx val ety
  ok _ := True
theorem H3 {P : Program} {C o : Nat} {T : TypeId} : ∀ (vs : List Value) (i : Nat) (cur : Array Value) (w : World) (es : Array Event), w.heap[C]? = some (.cells cur T (0, 0)) → o + i + vs.length ≤ cur.size → (∀ v ∈ vs, v.oneCell' = true) →
    ∀ e ∈ (storeCells ⟨C, o, none⟩ vs i).events P w es, e ∈ es ∨ ∃ j, j < i + vs.length ∧ e = ⟨.cell ⟨C, o + j, none⟩, true, false⟩
  | [], i, cur, w, es, _, _, _, e, he => Or.inl (by simpa [storeCells] using he)
  | v :: vs, i, cur, w, es, hb, hl, h1, e, he => by
    have hlt : o + i < cur.size := by simp at hl; omega
    have hB : Blk w C T cur := hb
    have hc := hB.cell (i := o + i) (v := cur[o + i]) (by simp [hlt])
    have ha : (⟨C, o, none⟩ : Addr).add i = ⟨C, o + i, none⟩ := Addr.add_mid _ _ _
    have hr : (store ((⟨C, o, none⟩ : Addr).add i) v).run P w = .ok () (w.setRow C (cur.setIfInBounds (o + i) v)) := by
      rw [ha, run_store P w _ v _ (h1 v (by simp)), hc]
      simp [hB.froz (o + i), setCell_eq_setRow w C (o + i) cur T (0, 0) v hb]
    have hev : (store ((⟨C, o, none⟩ : Addr).add i) v).events P w es = es.push ⟨.cell ⟨C, o + i, none⟩, true, false⟩ := by
      rw [ha, Go.events_store P w es _ v _ (h1 v (by simp)), hc]
      simp only [hB.froz (o + i), Bool.false_eq_true, if_false]
      rfl
    unfold storeCells at he
    simp only [Sem.events_bind, hr, Result.evThen_ok, hev] at he
    rcases H3 vs (i + 1) _ _ _ (J6 hB (cur.setIfInBounds (o + i) v)).blk (by simp at hl ⊢; omega) (fun u hu => h1 u (by simp [hu])) e he with h | ⟨j, hj, h⟩
    · rcases Array.mem_push.1 h with h | h
      · exact Or.inl h
      · exact Or.inr ⟨i, by simp, h⟩
    · exact Or.inr ⟨j, by simp; omega, h⟩
theorem G2 {P : Program} {t k C o : Nat} {T : TypeId} {cs : Array Value} {vs : List Value} {w : World} (h : rowTy P t = some k) (hl : vs.length = k) (h1 : ∀ v ∈ vs, v.oneCell' = true) (hb : w.heap[C]? = some (.cells cs T (0, 0))) (ho : o + k ≤ cs.size) {e : Event}
    (he : e ∈ (Instr.storeAt t (.pointer (some ⟨C, o, none⟩)) (.agg vs.toArray)).events P w #[]) : ∃ j, j < k ∧ e = ⟨.cell ⟨C, o + j, none⟩, true, false⟩ := by
  obtain ⟨d, _, _, hs⟩ := K0 h
  cases hq : P.info? t with
  | none => simp [hq] at hs
  | some i =>
    have hi : i.size = k := by simpa [hq] using hs
    have e2 : (Instr.storeAt t (.pointer (some ⟨C, o, none⟩)) (.agg vs.toArray)).events P w #[] = (storeCells ⟨C, o, none⟩ vs 0).events P w #[] := by
      simp [Instr.storeAt, Instr.sureAddr, storeVar, sizeOf, typeInfo, hq, hi, Value.cells, hl]
    rw [e2] at he
    rcases H3 vs 0 cs w #[] hb (by omega) h1 e he with h | ⟨j, hj, h⟩
    · simp at h
    · exact ⟨j, by omega, h⟩
section
variable {P : Program} {C n sz k : Nat} {TT : TypeId} {Out : List Value → World → Prop} {bx : Nat} {val : Value} {ety : TypeId}
theorem Iq {nn : Nat} {ops : Array Oper} {K : Fr → World → Prop} {l : List Oper} {f : Fr} {w : World} {ty : TypeId} {pos : String} {aft : Array Edge} {t : TypeId} {x y : Operand} {vs : List Value} (ht : rowTy P t = some sz) (hx : ev f x = .pointer (some ⟨C, k * sz, none⟩)) (hy : ev f y = .agg vs.toArray) (hl : vs.length = sz)
    (h1 : ∀ v ∈ vs, v.oneCell' = true) (hk : k < n) (hg : g0 w = 0) (hbx : w.heap[bx]? = some (.cells #[val] ety (0, 0))) (hO : Out vs (hideB w bx)) (h : @WpO (compW C n sz k TT Out bx val ety) P nn ops K l f (blind w)) : @WpO (compW C n sz k TT Out bx val ety) P nn ops K (⟨none, .store t x y, ty, pos, aft, none⟩ :: l) f w := by
  letI := compW C n sz k TT Out bx val ety
  intro a ha
  refine Or.inl ⟨by simp [Region.wanted], Or.inr ⟨fun v A' => A' = blind w, ?_, fun v A' hR => ⟨f, ha, by rw [hR]; exact h⟩⟩⟩
  intro J hJ b hb i rest kk cs a2 o' ho hd hw hs hk'
  refine hJ.step _ _ ⟨rfl, fun w1 hsee hinv => ?_⟩
  obtain ⟨cur, hC, hsz⟩ := hinv hg (by omega)
  have hB : Blk w1 C TT cur := hC
  have hle : k * sz + sz ≤ cur.size := by
    rw [hsz]
    have : (k + 1) * sz ≤ n * sz := Nat.mul_le_mul_right _ hk
    rwa [Nat.add_mul, Nat.one_mul] at this
  have he : execOp a.eval ⟨none, .store t x y, ty, pos, aft, none⟩ = (do Instr.storeAt t (.pointer (some ⟨C, k * sz, none⟩)) (.agg vs.toArray); pure .skip : Sem Next) := by
    rw [ha.eval]
    show (do Instr.storeAt t (ev f x) (ev f y); pure .skip : Sem Next) = _
    rw [hx, hy]
  have hr : (execOp a2.eval o').run P w1 = .ok .skip (w1.setRow C (putRow cur sz k vs)) := by
    rw [hs, he, Sem.run_bind, Vq ht hl h1 hB hle]
    rfl
  refine ⟨_, blind w, w1.setRow C (putRow cur sz k vs), _, La ho hw hb hr, Sn hsee rfl rfl (Nat.le_of_eq (size_setRow _ _ _).symm), Or.inr ⟨hg, rfl, hbx, ⟨cur, vs, hC, hsz, hl, hO, rfl⟩, fun e hev => ?_⟩, ?_⟩
  · have h5 := Go.Conc.mem_seen hev
    rw [hs, he] at h5
    refine G2 ht hl h1 hC hle (e := e) ?_
    rw [Sem.events_bind, Vq ht hl h1 hB hle] at h5
    exact h5
  · rw [hd]; exact hk' undef _ rfl
end
end Go.Dw.J
end
section
namespace Go.Dw.J
open Go.Dw Go.RowKit
open Go.Conc (G)
set_option linter.unusedVariables false
set_option linter.unusedSimpArgs false
set_option linter.unusedSectionVars false
section
variable {α : Type} (r : α → α → Prop)
def FamR (N : Nat) (F' F : Nat → α) : Prop := ∃ i, i < N ∧ r (F' i) (F i) ∧ ∀ j, j ≠ i → F' j = F j
theorem Hs (hr : ∀ x, Acc r x) : ∀ (N : Nat) (F : Nat → α), Acc (FamR r N) F
  | 0, F => ⟨_, fun _ ⟨i, h, _⟩ => by omega⟩
  | N + 1, F => by
    have key : ∀ t, Acc r t → ∀ F : Nat → α, F N = t → Acc (FamR r (N + 1)) F := by
      intro t ht
      induction ht with
      | intro t _ ih =>
        intro F hF
        have inner : ∀ F, Acc (FamR r N) F → F N = t → Acc (FamR r (N + 1)) F := by
          intro F hF
          induction hF with
          | intro F _ ih2 =>
            intro hN
            refine ⟨_, fun F' ⟨i, hi, hk, ho⟩ => ?_⟩
            rcases Nat.lt_or_ge i N with h | h
            · exact ih2 F' ⟨i, h, hk, ho⟩ ((ho N (by omega)).trans hN)
            · have : i = N := by omega
              subst this
              exact ih (F' i) (hN ▸ hk) F' rfl
        exact inner F (Hs hr N F) hF
    exact key (F N) (hr _) F rfl
end
abbrev Sz := Nat × Tree
def Lo : Sz → Sz → Prop := Prod.Lex (· < ·) Tree.Kid
theorem Dl : ∀ x, Acc Lo x := (Prod.lex ⟨_, Nat.lt_wfRel.wf⟩ ⟨Tree.Kid, ⟨R8⟩⟩).wf.apply
theorem Lo.stage {s s' : Nat} {t t' : Tree} (h : s' < s) : Lo (s', t') (s, t) := Prod.Lex.left _ _ h
theorem Lo.kid {s : Nat} {t t' : Tree} (h : Tree.Kid t' t) : Lo (s, t') (s, t) := Prod.Lex.right _ h
section
variable {A B w A' w' : World} {N0 : Nat}
theorem Sees.still (h : Sees B w) (ho : w'.os = w.os) (hp : w'.output = w.output) (hs : w.heap.size ≤ w'.heap.size) (hb : ∀ b, Seen B b → w'.heap[b]? = w.heap[b]?) : Sees B w' := by
  refine ⟨h.os.trans ho.symm, h.output.trans hp.symm, Nat.le_trans h.size hs, fun b hlt => ?_, h.nv⟩
  by_cases hse : B.heap[b]? = some pz
  · exact Or.inr (Or.inl hse)
  · rw [hb b ⟨hlt, hse⟩]; exact h.vis b hlt
def Rds (N0 : Nat) (A : World) : Prop := ∀ b, b < N0 → Ro A b ∨ ¬ Seen A b
theorem Rds.turns (h : Rds N0 A) (hN : N0 ≤ w.heap.size) (hT : Turns A w A' w') : Rds N0 A' := fun b hb => by
  rcases h b hb with hr | hn
  · obtain ⟨c, T, e, h2⟩ := hr
    exact Or.inl ⟨c, T, ((hT.read b ⟨c, T, e, h2⟩).2).trans e, h2⟩
  · exact Or.inr (hT.hid b (Nat.lt_of_lt_of_le hb hN) hn).2
theorem Rds.still (h : Rds N0 A) (hT : Turns A w A' w') (hN : N0 ≤ w.heap.size) {b : Nat} (hb : b < N0) : w'.heap[b]? = w.heap[b]? := by
  rcases h b hb with hr | hn
  · exact (hT.read b hr).1
  · exact (hT.hid b (Nat.lt_of_lt_of_le hb hN) hn).1
theorem Sees.other (hB : Sees B w) (hT : Turns A w A' w') (hlo : Rds N0 A) (hN : N0 ≤ w.heap.size) (hap : ∀ b, N0 ≤ b → Seen B b → ¬ Seen A b) : Sees B w' :=
  hB.still hT.os hT.output hT.le fun b hse => by
    rcases Nat.lt_or_ge b N0 with h | h
    · exact hlo.still hT hN h
    · exact (hT.hid b (Nat.lt_of_lt_of_le hse.1 hB.size) (hap b h hse)).1
theorem Turns.grow (hT : Turns A w A' w') {b : Nat} (h : Seen A' b) : Seen A b ∨ w.heap.size ≤ b := by
  rcases Nat.lt_or_ge b w.heap.size with h1 | h1
  · exact Or.inl (Classical.byContradiction fun hn => (hT.hid b h1 hn).2 h)
  · exact Or.inr h1
theorem Seen.ext {A A1 : World} (he : Ext A A1) {b : Nat} : Seen A1 b ↔ Seen A b := by
  constructor
  · rintro ⟨h1, h2⟩
    rcases Nat.lt_or_ge b A.heap.size with h3 | h3
    · exact ⟨h3, by rw [← he.get h3]; exact h2⟩
    · exact absurd (he.new h3 h1) h2
  · rintro ⟨h1, h2⟩
    exact ⟨Nat.lt_of_lt_of_le h1 he.size, by rw [he.get h1]; exact h2⟩
theorem Ro.ext {A A1 : World} (he : Ext A A1) {b : Nat} : Ro A b → Ro A1 b := fun h => let ⟨c, T, e, h2⟩ := h; ⟨c, T, by rw [he.get (Mi h)]; exact e, h2⟩
theorem Ro.ext' {A A1 : World} (he : Ext A A1) {b : Nat} (h : Ro A1 b) : Ro A b := by
  have hs := (Seen.ext he).1 (F6 h)
  obtain ⟨c, T, e, h2⟩ := h
  exact ⟨c, T, by rw [← he.get hs.1]; exact e, h2⟩
theorem Rds.ext {A1 : World} (he : Ext A A1) (h : Rds N0 A) : Rds N0 A1 := fun b hb => (h b hb).imp (Ro.ext he) fun hn hs => hn ((Seen.ext he).1 hs)
theorem Rds.ext' {A1 : World} (he : Ext A A1) (h : Rds N0 A1) : Rds N0 A := fun b hb => (h b hb).imp (Ro.ext' he) fun hn hs => hn ((Seen.ext he).2 hs)
end
end Go.Dw.J
end
section
namespace Go.CJ
open Go.Conc Go.ConcN
set_option linter.unusedVariables false
set_option linter.unusedSimpArgs false
set_option linter.unusedSectionVars false
structure Apart (s0 : Nat) (Sh : Loc → Prop) (Own Rd : Nat → Loc → Prop) : Prop where
  own : ∀ k k' l, s0 ≤ k → s0 ≤ k' → Own k l → Own k' l → k = k'
  ownRd : ∀ k k' l, s0 ≤ k → s0 ≤ k' → Own k l → ¬ Rd k' l
  ownSh : ∀ k l, s0 ≤ k → Own k l → ¬ Sh l
  rdSh : ∀ k l, s0 ≤ k → Rd k l → ¬ Sh l
structure CJ (s0 : Nat) (Sh : Loc → Prop) (Own Rd : Nat → Loc → Prop) (a : Addr) (t : Trace) (N : Nat) : Prop where
  quiet : Quiet Sh t
  own : ∀ k, s0 ≤ k → k < N → ∀ l, l.isMemory = true → Own k l → Perm t k l
  rd : ∀ k, s0 ≤ k → k < N → ∀ l, l.isMemory = true → Rd k l → PermW t k l
  free : ∀ l, l.isMemory = true → ¬ Sh l → (∀ k, s0 ≤ k → k < N → ¬ Own k l ∧ ¬ Rd k l) → Perm t 0 l
  mine : ∀ l, l.isMemory = true → ¬ Sh l → (∀ k, s0 ≤ k → k < N → ¬ Own k l) → PermW t 0 l
  nr : ∀ said, ¬ Race said t
  gs : ∀ op ∈ t, op.g < N
  old : ∀ (i : Nat) (x : Touch) (g : Nat), touchAt t i = some x → x.loc.isMemory = true → t.g? i = some g → g < s0 → Knows t 0 i ∨ (Sh x.loc ∧ x.kind = .atomic)
  new : ∀ (i : Nat) (x : Touch) (g : Nat), touchAt t i = some x → t.g? i = some g → s0 ≤ g → x.kind = .atomic → Sh x.loc
  over : ∀ i g, t.g? i = some g → g ≠ 0 → g < s0 → t.counts i → ∃ j, t.g? j = some 0 ∧ HappensBefore t i j
  norel : NoRelease a t
def Ok0 (s0 : Nat) (Sh : Loc → Prop) (Own Rd : Nat → Loc → Prop) (N : Nat) (op : MemOp) : Prop :=
  op.g = 0 ∧ ∀ x, op.act.touch? = some x → (Sh x.loc ∧ x.kind ≠ .plain) ∨ (¬ Sh x.loc ∧ (∀ k, s0 ≤ k → k < N → ¬ Own k x.loc) ∧ (x.write = true → ∀ k, s0 ≤ k → k < N → ¬ Rd k x.loc))
def OkW (Sh : Loc → Prop) (Own Rd : Nat → Loc → Prop) (k : Nat) (op : MemOp) : Prop :=
  op.g = k ∧ ∀ x, op.act.touch? = some x → (Sh x.loc ∧ x.kind ≠ .plain ∧ x.kind ≠ .said) ∨ (Own k x.loc ∧ x.kind ≠ .atomic) ∨ (Rd k x.loc ∧ x.write = false ∧ x.kind ≠ .atomic)
section
variable {s0 N : Nat} {Sh : Loc → Prop} {Own Rd : Nat → Loc → Prop} {a : Addr} {t u : Trace}
end
end Go.CJ
end
