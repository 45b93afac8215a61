/- Laws and walks: my templates, and what a program of mine (gen.py) printed out of the functions; only what the row reaches. -/
import Derived.Test.YtldnkinaedgnpaaVH5
section
namespace Go.Dw.J
open Go.RowKit Go.Dw Go.Proofs
set_option linter.unusedSectionVars false
set_option maxRecDepth 100000
set_option maxHeartbeats 4000000
set_option linter.unusedSimpArgs false
set_option linter.unusedVariables false
theorem P0 [Comp] (m p : MTh) (w : World) (ha : ThAt w m) (hb : ThAt w p) (hla : m.t.slots.length ≤ 1048576 ∧ m.t.queue.length ≤ 1048576) (hlb : p.t.slots.length ≤ 1048576 ∧ p.t.queue.length ≤ 1048576) : CallsR Try.prog 58 #[.agg #[.int .i64 m.t.kind, .int .i64 m.t.lab.s, .int .i64 m.t.lab.v, .int .i64 m.t.ve, .int .i64 m.t.num, .slice m.sa m.t.slots.length m.sc, .slice m.qa m.t.queue.length m.qc, .int .i64 m.t.to], .agg #[.int .i64 p.t.kind, .int .i64 p.t.lab.s, .int .i64 p.t.lab.v, .int .i64 p.t.ve, .int .i64 p.t.num, .slice p.sa p.t.slots.length p.sc, .slice p.qa p.t.queue.length p.qc, .int .i64 p.t.to]] w (fun v w' => v = .bool (decide (m.t = p.t)) ∧ w.grownBy w' none) := by
 refine Xp (n := 52) Try.func58 rfl Try.ntmps58 rfl ?_
 have hb0 := World.grownBy.refl w none
 refine Xa ?_
 refine wpo_box (v := .agg #[.int .i64 m.t.kind, .int .i64 m.t.lab.s, .int .i64 m.t.lab.v, .int .i64 m.t.ve, .int .i64 m.t.num, .slice m.sa m.t.slots.length m.sc, .slice m.qa m.t.queue.length m.qc, .int .i64 m.t.to]) (cs := #[.int .i64 m.t.kind, .int .i64 m.t.lab.s, .int .i64 m.t.lab.v, .int .i64 m.t.ve, .int .i64 m.t.num, .slice m.sa m.t.slots.length m.sc, .slice m.qa m.t.queue.length m.qc, .int .i64 m.t.to]) rfl rfl rfl ?_
 intro B101 w102 hN103
 have hlB101 := X1 hN103 hb0
 have hb104 := low0 hb0 hN103.grw
 refine wpo_box (v := .agg #[.int .i64 p.t.kind, .int .i64 p.t.lab.s, .int .i64 p.t.lab.v, .int .i64 p.t.ve, .int .i64 p.t.num, .slice p.sa p.t.slots.length p.sc, .slice p.qa p.t.queue.length p.qc, .int .i64 p.t.to]) (cs := #[.int .i64 p.t.kind, .int .i64 p.t.lab.s, .int .i64 p.t.lab.v, .int .i64 p.t.ve, .int .i64 p.t.num, .slice p.sa p.t.slots.length p.sc, .slice p.qa p.t.queue.length p.qc, .int .i64 p.t.to]) rfl rfl rfl ?_
 intro B105 w106 hN107
 have hlB105 := X1 hN107 hb104
 have lt_B101_B105 := Xo hN107 (hN103.blk).lt
 have hb108 := low0 hb104 hN107.grw
 refine wpo_assign (v := .bool false) rfl rfl ?_
 refine wpo_nil ?_
 refine Xs (fun f' w' => (f' 4 = .bool (((((((decide (m.t.kind = p.t.kind)) && (decide (m.t.lab = p.t.lab))) && (decide (m.t.ve = p.t.ve))) && (decide (m.t.num = p.t.num))) && (decide (m.t.to = p.t.to))) && (decide (m.t.slots = p.t.slots))) && (decide (m.t.queue = p.t.queue)))) ∧ w106.grownBy w' none) ?_ ?_
 ·
  refine wpo_fieldAddr (o' := 0) X9 rfl rfl rfl ?_
  have k119 := (hN103.blk.grown0 hN107.grw)
  refine wpo_load1 (v := .int .i64 m.t.kind) X0 rfl (k119.cell rfl) rfl ?_
  refine wpo_fieldAddr (o' := 0) X9 rfl rfl rfl ?_
  refine wpo_load1 (v := .int .i64 p.t.kind) X0 rfl (hN107.blk.cell rfl) rfl ?_
  refine wpo_eql (q := decide (m.t.kind = p.t.kind)) rfl rfl rfl rfl ?_
  refine wpo_move (v := .bool (decide (m.t.kind = p.t.kind))) rfl rfl ?_
  rcases Xy (decide (m.t.kind = p.t.kind)) with h120 | h120
  ·
   have h121 := of_decide_eq_true h120
   refine Xc rfl rfl rfl h120 ?_
   refine wpo_fieldAddr (o' := 1) J7 rfl rfl rfl ?_
   refine Xc rfl rfl rfl h120 ?_
   refine wpo_loadn (vs := [.int .i64 m.t.lab.s, .int .i64 m.t.lab.v]) Yr rfl rfl (k119.rangeL 1 2 rfl) rfl ?_
   refine Xc rfl rfl rfl h120 ?_
   refine wpo_fieldAddr (o' := 1) J7 rfl rfl rfl ?_
   refine Xc rfl rfl rfl h120 ?_
   refine wpo_loadn (vs := [.int .i64 p.t.lab.s, .int .i64 p.t.lab.v]) Yr rfl rfl (hN107.blk.rangeL 1 2 rfl) rfl ?_
   refine Xc rfl rfl rfl h120 ?_
   refine wpo_eqs (q := decide (m.t.lab = p.t.lab)) rfl rfl rfl rfl (fun _ => E8 _ _ m.t.lab p.t.lab _) (fun _ => M8 m.t.lab p.t.lab _) rfl rfl ?_
   refine wpo_pickt (v := .bool (decide (m.t.lab = p.t.lab))) rfl h120 rfl rfl ?_
   refine wpo_move (v := .bool (decide (m.t.lab = p.t.lab))) rfl rfl ?_
   rcases Xy (decide (m.t.lab = p.t.lab)) with h122 | h122
   ·
    have h123 := of_decide_eq_true h122
    refine Xc rfl rfl rfl h122 ?_
    refine wpo_fieldAddr (o' := 3) Qw rfl rfl rfl ?_
    refine Xc rfl rfl rfl h122 ?_
    refine wpo_load1 (v := .int .i64 m.t.ve) X0 rfl (k119.cell rfl) rfl ?_
    refine Xc rfl rfl rfl h122 ?_
    refine wpo_fieldAddr (o' := 3) Qw rfl rfl rfl ?_
    refine Xc rfl rfl rfl h122 ?_
    refine wpo_load1 (v := .int .i64 p.t.ve) X0 rfl (hN107.blk.cell rfl) rfl ?_
    refine Xc rfl rfl rfl h122 ?_
    refine wpo_eql (q := decide (m.t.ve = p.t.ve)) rfl rfl rfl rfl ?_
    refine wpo_pickt (v := .bool (decide (m.t.ve = p.t.ve))) rfl h122 rfl rfl ?_
    refine wpo_move (v := .bool (decide (m.t.ve = p.t.ve))) rfl rfl ?_
    rcases Xy (decide (m.t.ve = p.t.ve)) with h124 | h124
    ·
     have h125 := of_decide_eq_true h124
     refine Xc rfl rfl rfl h124 ?_
     refine wpo_fieldAddr (o' := 4) Q4 rfl rfl rfl ?_
     refine Xc rfl rfl rfl h124 ?_
     refine wpo_load1 (v := .int .i64 m.t.num) X0 rfl (k119.cell rfl) rfl ?_
     refine Xc rfl rfl rfl h124 ?_
     refine wpo_fieldAddr (o' := 4) Q4 rfl rfl rfl ?_
     refine Xc rfl rfl rfl h124 ?_
     refine wpo_load1 (v := .int .i64 p.t.num) X0 rfl (hN107.blk.cell rfl) rfl ?_
     refine Xc rfl rfl rfl h124 ?_
     refine wpo_eql (q := decide (m.t.num = p.t.num)) rfl rfl rfl rfl ?_
     refine wpo_pickt (v := .bool (decide (m.t.num = p.t.num))) rfl h124 rfl rfl ?_
     refine wpo_move (v := .bool (decide (m.t.num = p.t.num))) rfl rfl ?_
     rcases Xy (decide (m.t.num = p.t.num)) with h126 | h126
     ·
      have h127 := of_decide_eq_true h126
      refine Xc rfl rfl rfl h126 ?_
      refine wpo_fieldAddr (o' := 7) Jj rfl rfl rfl ?_
      refine Xc rfl rfl rfl h126 ?_
      refine wpo_load1 (v := .int .i64 m.t.to) X0 rfl (k119.cell rfl) rfl ?_
      refine Xc rfl rfl rfl h126 ?_
      refine wpo_fieldAddr (o' := 7) Jj rfl rfl rfl ?_
      refine Xc rfl rfl rfl h126 ?_
      refine wpo_load1 (v := .int .i64 p.t.to) X0 rfl (hN107.blk.cell rfl) rfl ?_
      refine Xc rfl rfl rfl h126 ?_
      refine wpo_eql (q := decide (m.t.to = p.t.to)) rfl rfl rfl rfl ?_
      refine wpo_pickt (v := .bool (decide (m.t.to = p.t.to))) rfl h126 rfl rfl ?_
      refine wpo_move (v := .bool (decide (m.t.to = p.t.to))) rfl rfl ?_
      rcases Xy (decide (m.t.to = p.t.to)) with h128 | h128
      ·
       have h129 := of_decide_eq_true h128
       refine Xc rfl rfl rfl h128 ?_
       refine wpo_fieldAddr (o' := 5) Y2 rfl rfl rfl ?_
       refine Xc rfl rfl rfl h128 ?_
       refine wpo_load1 (v := .slice m.sa m.t.slots.length m.sc) Jc rfl (k119.cell rfl) rfl ?_
       refine Xc rfl rfl rfl h128 ?_
       refine wpo_fieldAddr (o' := 5) Y2 rfl rfl rfl ?_
       refine Xc rfl rfl rfl h128 ?_
       refine wpo_load1 (v := .slice p.sa p.t.slots.length p.sc) Jc rfl (hN107.blk.cell rfl) rfl ?_
       refine Xc rfl rfl rfl h128 ?_
       refine Xh (vs := [.slice m.sa m.t.slots.length m.sc, .slice p.sa p.t.slots.length p.sc]) I4 (Xb rfl (Xb rfl Xg)) rfl (Ba _ m.t.slots p.t.slots _ _ _ _ (SlAt.low ha.1 hb108) (SlAt.low hb.1 hb108) (by first | omega | exact Nat.le_of_ble_eq_true rfl | (simp only [List.length_nil, List.length_cons, List.length_append, List.length_replicate]; omega)) (by first | omega | exact Nat.le_of_ble_eq_true rfl | (simp only [List.length_nil, List.length_cons, List.length_append, List.length_replicate]; omega))) ?_
       rintro _ w130 ⟨rfl, hg131⟩
       have hb132 := low0 hb108 hg131
       refine wpo_pickt (v := .bool (decide (m.t.slots = p.t.slots))) rfl h128 rfl rfl ?_
       refine wpo_move (v := .bool (decide (m.t.slots = p.t.slots))) rfl rfl ?_
       rcases Xy (decide (m.t.slots = p.t.slots)) with h133 | h133
       ·
        have h134 := of_decide_eq_true h133
        refine Xc rfl rfl rfl h133 ?_
        refine wpo_fieldAddr (o' := 6) Qk rfl rfl rfl ?_
        refine Xc rfl rfl rfl h133 ?_
        have k135 := (k119.grown0 hg131)
        refine wpo_load1 (v := .slice m.qa m.t.queue.length m.qc) Jo rfl (k135.cell rfl) rfl ?_
        refine Xc rfl rfl rfl h133 ?_
        refine wpo_fieldAddr (o' := 6) Qk rfl rfl rfl ?_
        refine Xc rfl rfl rfl h133 ?_
        have k136 := (hN107.blk.grown0 hg131)
        refine wpo_load1 (v := .slice p.qa p.t.queue.length p.qc) Jo rfl (k136.cell rfl) rfl ?_
        refine Xc rfl rfl rfl h133 ?_
        refine Xh (vs := [.slice m.qa m.t.queue.length m.qc, .slice p.qa p.t.queue.length p.qc]) I5 (Xb rfl (Xb rfl Xg)) rfl (M9 _ m.t.queue p.t.queue _ _ _ _ (SlAt.low ha.2.1 hb132) (SlAt.low hb.2.1 hb132) (by first | omega | exact Nat.le_of_ble_eq_true rfl | (simp only [List.length_nil, List.length_cons, List.length_append, List.length_replicate]; omega)) (by first | omega | exact Nat.le_of_ble_eq_true rfl | (simp only [List.length_nil, List.length_cons, List.length_append, List.length_replicate]; omega))) ?_
        rintro _ w137 ⟨rfl, hg138⟩
        have hb139 := low0 hb132 hg138
        refine wpo_pickt (v := .bool (decide (m.t.queue = p.t.queue))) rfl h133 rfl rfl ?_
        refine wpo_assign (v := .bool (decide (m.t.queue = p.t.queue))) rfl rfl ?_
        exact wpo_nil ⟨(congrArg Value.bool (by first | (simp only [h120, h122, h124, h126, h128, h133, b0, b1, b2, b3, b4, b5, b6, b7, b8, b9]; done) | simp [h120, h122, h124, h126, h128, h133])), (Xf hg131 hg138)⟩
       ·
        have h140 := of_decide_eq_false h133
        iterate 5 refine Xe rfl rfl rfl h133 rfl ?_
        refine wpo_pickf (v := .bool false) rfl h133 rfl rfl ?_
        refine wpo_assign (v := .bool false) rfl rfl ?_
        exact wpo_nil ⟨(congrArg Value.bool (by first | (simp only [h120, h122, h124, h126, h128, h133, b0, b1, b2, b3, b4, b5, b6, b7, b8, b9]; done) | simp [h120, h122, h124, h126, h128, h133])), hg131⟩
      ·
       have h141 := of_decide_eq_false h128
       iterate 5 refine Xe rfl rfl rfl h128 rfl ?_
       refine wpo_pickf (v := .bool false) rfl h128 rfl rfl ?_
       refine wpo_move (v := .bool false) rfl rfl ?_
       iterate 5 refine Xe rfl rfl rfl rfl rfl ?_
       refine wpo_pickf (v := .bool false) rfl rfl rfl rfl ?_
       refine wpo_assign (v := .bool false) rfl rfl ?_
       exact wpo_nil ⟨(congrArg Value.bool (by first | (simp only [h120, h122, h124, h126, h128, b0, b1, b2, b3, b4, b5, b6, b7, b8, b9]; done) | simp [h120, h122, h124, h126, h128])), (World.grownBy.refl _ _)⟩
     ·
      have h142 := of_decide_eq_false h126
      iterate 5 refine Xe rfl rfl rfl h126 rfl ?_
      refine wpo_pickf (v := .bool false) rfl h126 rfl rfl ?_
      refine wpo_move (v := .bool false) rfl rfl ?_
      iterate 5 refine Xe rfl rfl rfl rfl rfl ?_
      refine wpo_pickf (v := .bool false) rfl rfl rfl rfl ?_
      refine wpo_move (v := .bool false) rfl rfl ?_
      iterate 5 refine Xe rfl rfl rfl rfl rfl ?_
      refine wpo_pickf (v := .bool false) rfl rfl rfl rfl ?_
      refine wpo_assign (v := .bool false) rfl rfl ?_
      exact wpo_nil ⟨(congrArg Value.bool (by first | (simp only [h120, h122, h124, h126, b0, b1, b2, b3, b4, b5, b6, b7, b8, b9]; done) | simp [h120, h122, h124, h126])), (World.grownBy.refl _ _)⟩
    ·
     have h143 := of_decide_eq_false h124
     iterate 5 refine Xe rfl rfl rfl h124 rfl ?_
     refine wpo_pickf (v := .bool false) rfl h124 rfl rfl ?_
     refine wpo_move (v := .bool false) rfl rfl ?_
     iterate 5 refine Xe rfl rfl rfl rfl rfl ?_
     refine wpo_pickf (v := .bool false) rfl rfl rfl rfl ?_
     refine wpo_move (v := .bool false) rfl rfl ?_
     iterate 5 refine Xe rfl rfl rfl rfl rfl ?_
     refine wpo_pickf (v := .bool false) rfl rfl rfl rfl ?_
     refine wpo_move (v := .bool false) rfl rfl ?_
     iterate 5 refine Xe rfl rfl rfl rfl rfl ?_
     refine wpo_pickf (v := .bool false) rfl rfl rfl rfl ?_
     refine wpo_assign (v := .bool false) rfl rfl ?_
     exact wpo_nil ⟨(congrArg Value.bool (by first | (simp only [h120, h122, h124, b0, b1, b2, b3, b4, b5, b6, b7, b8, b9]; done) | simp [h120, h122, h124])), (World.grownBy.refl _ _)⟩
   ·
    have h144 := of_decide_eq_false h122
    iterate 5 refine Xe rfl rfl rfl h122 rfl ?_
    refine wpo_pickf (v := .bool false) rfl h122 rfl rfl ?_
    refine wpo_move (v := .bool false) rfl rfl ?_
    iterate 5 refine Xe rfl rfl rfl rfl rfl ?_
    refine wpo_pickf (v := .bool false) rfl rfl rfl rfl ?_
    refine wpo_move (v := .bool false) rfl rfl ?_
    iterate 5 refine Xe rfl rfl rfl rfl rfl ?_
    refine wpo_pickf (v := .bool false) rfl rfl rfl rfl ?_
    refine wpo_move (v := .bool false) rfl rfl ?_
    iterate 5 refine Xe rfl rfl rfl rfl rfl ?_
    refine wpo_pickf (v := .bool false) rfl rfl rfl rfl ?_
    refine wpo_move (v := .bool false) rfl rfl ?_
    iterate 5 refine Xe rfl rfl rfl rfl rfl ?_
    refine wpo_pickf (v := .bool false) rfl rfl rfl rfl ?_
    refine wpo_assign (v := .bool false) rfl rfl ?_
    exact wpo_nil ⟨(congrArg Value.bool (by first | (simp only [h120, h122, b0, b1, b2, b3, b4, b5, b6, b7, b8, b9]; done) | simp [h120, h122])), (World.grownBy.refl _ _)⟩
  ·
   have h145 := of_decide_eq_false h120
   iterate 5 refine Xe rfl rfl rfl h120 rfl ?_
   refine wpo_pickf (v := .bool false) rfl h120 rfl rfl ?_
   refine wpo_move (v := .bool false) rfl rfl ?_
   iterate 5 refine Xe rfl rfl rfl rfl rfl ?_
   refine wpo_pickf (v := .bool false) rfl rfl rfl rfl ?_
   refine wpo_move (v := .bool false) rfl rfl ?_
   iterate 5 refine Xe rfl rfl rfl rfl rfl ?_
   refine wpo_pickf (v := .bool false) rfl rfl rfl rfl ?_
   refine wpo_move (v := .bool false) rfl rfl ?_
   iterate 5 refine Xe rfl rfl rfl rfl rfl ?_
   refine wpo_pickf (v := .bool false) rfl rfl rfl rfl ?_
   refine wpo_move (v := .bool false) rfl rfl ?_
   iterate 5 refine Xe rfl rfl rfl rfl rfl ?_
   refine wpo_pickf (v := .bool false) rfl rfl rfl rfl ?_
   refine wpo_move (v := .bool false) rfl rfl ?_
   iterate 5 refine Xe rfl rfl rfl rfl rfl ?_
   refine wpo_pickf (v := .bool false) rfl rfl rfl rfl ?_
   refine wpo_assign (v := .bool false) rfl rfl ?_
   exact wpo_nil ⟨(congrArg Value.bool (by first | (simp only [h120, b0, b1, b2, b3, b4, b5, b6, b7, b8, b9]; done) | simp [h120])), (World.grownBy.refl _ _)⟩
 ·
  rintro f146 w147 ⟨e148, hg149⟩
  have hb150 := low0 hb108 hg149
  refine Xj ?_
  refine ⟨.bool (((((((decide (m.t.kind = p.t.kind)) && (decide (m.t.lab = p.t.lab))) && (decide (m.t.ve = p.t.ve))) && (decide (m.t.num = p.t.num))) && (decide (m.t.to = p.t.to))) && (decide (m.t.slots = p.t.slots))) && (decide (m.t.queue = p.t.queue))), res1 rfl e148, ?_, hb150⟩
  exact congrArg Value.bool Cn
theorem Rj [Comp] [ViewRule] (l : Lab) (w : World) (ms ps : List MTh) (a b : Option Addr) (c e : Nat) (ht : TabAt w a ms) (hp : TabAt w b ps) (hlen : TabLen ms) (hlep : TabLen ps) (hn : ms.length ≤ 1048576) (hm : ps.length ≤ 1048576) (hKB : ViewRule.base ≤ w.heap.size) : CallsR Try.prog 24 #[.slice a ms.length c, .slice b ps.length e, .agg #[.int .i64 l.s, .int .i64 l.v]] w (fun v w' => v = .bool (viewSame (tabT ms) (tabT ps) l) ∧ w.grownBy w' none) := by
 refine Xp (n := 52) Try.func24 rfl Try.ntmps24 rfl ?_
 have hb0 := World.grownBy.refl w none
 refine Xa ?_
 refine wpo_box (v := .agg #[.int .i64 l.s, .int .i64 l.v]) (cs := #[.int .i64 l.s, .int .i64 l.v]) rfl rfl rfl ?_
 intro B101 w102 hN103
 have hlB101 := X1 hN103 hb0
 have hb104 := low0 hb0 hN103.grw
 refine wpo_assign (v := .bool false) rfl rfl ?_
 refine wpo_nil ?_
 refine Xi ?_
 refine Xs (fun f' w' => (f' 0 = .slice a ms.length c ∧ f' 1 = .slice b ps.length e ∧ f' 5 = .pointer (some ⟨B101, 0, none⟩) ∧ f' 6 = .bool false ∧ f' 29 = .bool ((((!tableOk (tabT ms)) || (!tableOk (tabT ps))) || (!labelOk l)) || (!(decide ((ms.length : Int) = (ps.length : Int)))))) ∧ w102.grownBy w' none) ?_ ?_
 ·
  refine wpo_move (v := .slice a ms.length c) rfl rfl ?_
  refine Xh (vs := [.slice a ms.length c]) H6 (Xb rfl Xg) rfl (Ka  _ ms _ _ (TabAt.low ht hb104) hlen (by omega)) ?_
  rintro _ w118 ⟨rfl, hg119⟩
  have hb120 := low0 hb104 hg119
  refine wpo_not (b' := !tableOk (tabT ms)) rfl rfl rfl ?_
  refine wpo_move (v := .bool (!tableOk (tabT ms))) rfl rfl ?_
  rcases Xy (!tableOk (tabT ms)) with h121 | h121
  ·
   have h122 := Q3 h121
   iterate 3 refine Xe rfl rfl rfl h121 rfl ?_
   refine wpo_pickt (v := .bool true) rfl h121 rfl rfl ?_
   refine wpo_move (v := .bool true) rfl rfl ?_
   iterate 3 refine Xe rfl rfl rfl rfl rfl ?_
   refine wpo_pickt (v := .bool true) rfl rfl rfl rfl ?_
   refine wpo_move (v := .bool true) rfl rfl ?_
   iterate 5 refine Xe rfl rfl rfl rfl rfl ?_
   refine wpo_pickt (v := .bool true) rfl rfl rfl rfl ?_
   exact wpo_nil ⟨⟨rfl, rfl, rfl, rfl, (congrArg Value.bool (by first | (simp only [h121, h122, b0, b1, b2, b3, b4, b5, b6, b7, b8, b9]; done) | simp [h121, h122]))⟩, hg119⟩
  ·
   have h123 := Y9 h121
   refine Xc rfl rfl rfl h121 ?_
   refine wpo_move (v := .slice b ps.length e) rfl rfl ?_
   refine Xc rfl rfl rfl h121 ?_
   refine Xh (vs := [.slice b ps.length e]) H6 (Xb rfl Xg) rfl (Ka  _ ps _ _ (TabAt.low hp hb120) hlep (by omega)) ?_
   rintro _ w124 ⟨rfl, hg125⟩
   have hb126 := low0 hb120 hg125
   refine Xc rfl rfl rfl h121 ?_
   refine wpo_not (b' := !tableOk (tabT ps)) rfl rfl rfl ?_
   refine wpo_pickf (v := .bool (!tableOk (tabT ps))) rfl h121 rfl rfl ?_
   refine wpo_move (v := .bool (!tableOk (tabT ps))) rfl rfl ?_
   rcases Xy (!tableOk (tabT ps)) with h127 | h127
   ·
    have h128 := Q3 h127
    iterate 3 refine Xe rfl rfl rfl h127 rfl ?_
    refine wpo_pickt (v := .bool true) rfl h127 rfl rfl ?_
    refine wpo_move (v := .bool true) rfl rfl ?_
    iterate 5 refine Xe rfl rfl rfl rfl rfl ?_
    refine wpo_pickt (v := .bool true) rfl rfl rfl rfl ?_
    exact wpo_nil ⟨⟨rfl, rfl, rfl, rfl, (congrArg Value.bool (by first | (simp only [h121, h123, h127, h128, b0, b1, b2, b3, b4, b5, b6, b7, b8, b9]; done) | simp [h121, h123, h127, h128]))⟩, (Xf hg119 hg125)⟩
   ·
    have h129 := Y9 h127
    refine Xc rfl rfl rfl h127 ?_
    have k130 := ((hN103.blk.grown0 hg119).grown0 hg125)
    refine wpo_loadn (vs := [.int .i64 l.s, .int .i64 l.v]) Yr rfl rfl (k130.rangeL 0 2 rfl) rfl ?_
    refine Xc rfl rfl rfl h127 ?_
    refine Xh (vs := [.agg #[.int .i64 l.s, .int .i64 l.v]]) Hf (Xb rfl Xg) rfl (J1 l _) ?_
    rintro _ w131 ⟨rfl, hg132⟩
    have hb133 := low0 hb126 hg132
    refine Xc rfl rfl rfl h127 ?_
    refine wpo_not (b' := !labelOk l) rfl rfl rfl ?_
    refine wpo_pickf (v := .bool (!labelOk l)) rfl h127 rfl rfl ?_
    refine wpo_move (v := .bool (!labelOk l)) rfl rfl ?_
    rcases Xy (!labelOk l) with h134 | h134
    ·
     have h135 := Q3 h134
     iterate 5 refine Xe rfl rfl rfl h134 rfl ?_
     refine wpo_pickt (v := .bool true) rfl h134 rfl rfl ?_
     exact wpo_nil ⟨⟨rfl, rfl, rfl, rfl, (congrArg Value.bool (by first | (simp only [h121, h123, h127, h129, h134, h135, b0, b1, b2, b3, b4, b5, b6, b7, b8, b9]; done) | simp [h121, h123, h127, h129, h134, h135]))⟩, (Xf (Xf hg119 hg125) hg132)⟩
    ·
     have h136 := Y9 h134
     refine Xc rfl rfl rfl h134 ?_
     refine wpo_move (v := .slice a ms.length c) rfl rfl ?_
     refine Xc rfl rfl rfl h134 ?_
     refine wpo_len (by kernel_rfl) rfl rfl ?_
     refine Xc rfl rfl rfl h134 ?_
     refine wpo_move (v := .slice b ps.length e) rfl rfl ?_
     refine Xc rfl rfl rfl h134 ?_
     refine wpo_len (by kernel_rfl) rfl rfl ?_
     refine Xc rfl rfl rfl h134 ?_
     refine wpo_neq (q := !(decide ((ms.length : Int) = (ps.length : Int)))) rfl rfl rfl rfl ?_
     refine wpo_pickf (v := .bool (!(decide ((ms.length : Int) = (ps.length : Int))))) rfl h134 rfl rfl ?_
     exact wpo_nil ⟨⟨rfl, rfl, rfl, rfl, (congrArg Value.bool (by first | (simp only [h121, h123, h127, h129, h134, h136, b0, b1, b2, b3, b4, b5, b6, b7, b8, b9]; done) | simp [h121, h123, h127, h129, h134, h136]))⟩, (Xf (Xf hg119 hg125) hg132)⟩
 ·
  rintro f137 w138 ⟨⟨e139, e140, e141, e142, e143⟩, hg144⟩
  have hb145 := low0 hb104 hg144
  refine Xq e143 (fun h146 => ?_) (fun h146 => ?_)
  ·
   refine Xa ?_
   refine wpo_assign (v := .bool false) rfl rfl ?_
   refine wpo_nil ?_
   refine Xj ?_
   refine X7 ?_
   refine ⟨.bool false, res1 rfl rfl, ?_, hb145⟩
   exact congrArg Value.bool (Rb h146)
  ·
   have h147 := J5 h146
   have h148 := J5 h147
   have h149 := J5 h148
   have h150 := Y9 h149
   have h151 := J6 h148
   have h152 := Y9 h151
   have h153 := J6 h147
   have h154 := Y9 h153
   have h155 := J6 h146
   have h156 := Y9 h155
   have h157 := of_decide_eq_true h156
   refine Xk ?_
   refine Xn ?_
   refine Xi ?_
   refine J4 (m := 5) [[], [], [0, 1], [], [], [0, 1, 2, 3, 4], [0, 1, 2, 3, 4, 5], [0, 1, 2, 3, 4, 5, 6]] (fun S F w' => ∃ (us231 : List MTh) (a232 : Option Addr) (cap233 : Nat), w138.grownBy w' none ∧ F 0 = .slice a ms.length c ∧ F 1 = .slice b ps.length e ∧ F 5 = .pointer (some ⟨B101, 0, none⟩) ∧ F 6 = .bool false ∧ (S 2 = true → F 32 = .slice a232 us231.length cap233 ∧ tabT us231 = viewTab (tabT ms) l ∧ TabLen us231 ∧ us231.length ≤ ms.length ∧ (a232 = none → cap233 = 0) ∧ TabAt w' (a232) us231) ∧ Vals S F [(0, 30, .slice a ms.length c), (1, 31, .agg #[.int .i64 l.s, .int .i64 l.v]), (3, 33, .slice b ps.length e), (4, 34, .agg #[.int .i64 l.s, .int .i64 l.v])]) Qq (by kernel_rfl) ⟨[], none, 0, X5 _, e139, e140, e141, e142, Yg, U9 _⟩ ?_ ?_
   ·
    refine Xu (fun S F w243 hS hbef hcl hI => ?_) ?_
    ·
     obtain ⟨us231, a232, cap233, hi244, e245, e246, e247, e248, c_2, hvs⟩ := hI
     have hb249 := low0 hb145 hi244
     refine wpo_move (v := .slice a ms.length c) e245 rfl ?_
     exact wpo_nil ⟨us231, a232, cap233, hi244, e245, e246, e247, e248, fun h => Xt 2 hS hcl rfl h, Vals.up 0 hvs rfl rfl rfl⟩
    refine Xu (fun S F w250 hS hbef hcl hI => ?_) ?_
    ·
     obtain ⟨us231, a232, cap233, hi251, e252, e253, e254, e255, c_2, hvs⟩ := hI
     have hb256 := low0 hb145 hi251
     have k257 := ((hN103.blk.grown0 hg144).grown0 hi251)
     refine wpo_loadn (vs := [.int .i64 l.s, .int .i64 l.v]) Yr e254 rfl (k257.rangeL 0 2 rfl) rfl ?_
     exact wpo_nil ⟨us231, a232, cap233, hi251, e252, e253, e254, e255, fun h => Xt 2 hS hcl rfl h, Vals.up 1 hvs rfl rfl rfl⟩
    refine Xu (fun S F w258 hS hbef hcl hI => ?_) ?_
    ·
     obtain ⟨us231, a232, cap233, hi259, e260, e261, e262, e263, c_2, hvs⟩ := hI
     have hb264 := low0 hb145 hi259
     have ev265 := Vals.at 0 hvs rfl (Xr 0 hbef rfl)
     have ev266 := Vals.at 1 hvs rfl (Xr 1 hbef rfl)
     refine Xh (vs := [.slice a ms.length c, .agg #[.int .i64 l.s, .int .i64 l.v]]) S0 (Xb ev265 (Xb ev266 Xg)) rfl (ViewRule.rule _ ms _ _ l (Nat.le_trans hKB hb264.size) (TabAt.low ht hb264) hlen (by omega)) ?_
     rintro _ w274 ⟨us267, a268, cap269, rfl, he270, hT271, hnc272, hg273⟩
     have hb277 := low0 hb264 hg273
     have hTl275 := Js he270 hlen
     have hll276 := Kg he270
     exact wpo_nil ⟨us267, a268, cap269, (low0 hi259 hg273), e260, e261, e262, e263, fun _ => ⟨rfl, he270, hTl275, hll276, hnc272, hT271⟩, Vals.keep hvs rfl⟩
    refine Xu (fun S F w278 hS hbef hcl hI => ?_) ?_
    ·
     obtain ⟨us231, a232, cap233, hi279, e280, e281, e282, e283, c_2, hvs⟩ := hI
     have hb284 := low0 hb145 hi279
     refine wpo_move (v := .slice b ps.length e) e281 rfl ?_
     exact wpo_nil ⟨us231, a232, cap233, hi279, e280, e281, e282, e283, c_2, Vals.up 2 hvs rfl rfl rfl⟩
    refine Xu (fun S F w285 hS hbef hcl hI => ?_) ?_
    ·
     obtain ⟨us231, a232, cap233, hi286, e287, e288, e289, e290, c_2, hvs⟩ := hI
     have hb291 := low0 hb145 hi286
     have k292 := ((hN103.blk.grown0 hg144).grown0 hi286)
     refine wpo_loadn (vs := [.int .i64 l.s, .int .i64 l.v]) Yr e289 rfl (k292.rangeL 0 2 rfl) rfl ?_
     exact wpo_nil ⟨us231, a232, cap233, hi286, e287, e288, e289, e290, c_2, Vals.up 3 hvs rfl rfl rfl⟩
    exact Kj
   ·
    intro S F w293 hall hI
    obtain ⟨us231, a232, cap233, hi294, e295, e296, e297, e298, c_2, hvs⟩ := hI
    have hb299 := low0 hb145 hi294
    have ev300 := Vals.at 0 hvs rfl (hall 0 (by decide))
    have ev301 := Vals.at 1 hvs rfl (hall 1 (by decide))
    obtain ⟨e302, he234, hTl239, hll240, hnc236, hT235⟩ := c_2 (hall 2 (by decide))
    have ev303 := Vals.at 2 hvs rfl (hall 3 (by decide))
    have ev304 := Vals.at 3 hvs rfl (hall 4 (by decide))
    refine Xh (vs := [.slice b ps.length e, .agg #[.int .i64 l.s, .int .i64 l.v]]) S0 (Xb ev303 (Xb ev304 Xg)) rfl (ViewRule.rule _ ps _ _ l (Nat.le_trans hKB hb299.size) (TabAt.low hp hb299) hlep (by omega)) ?_
    rintro _ w312 ⟨us305, a306, cap307, rfl, he308, hT309, hnc310, hg311⟩
    have hb315 := low0 hb299 hg311
    have hTl313 := Js he308 hlep
    have hll314 := Kg he308
    refine wpo_assign (v := .slice a232 us231.length cap233) e302 rfl ?_
    refine wpo_assign (v := .slice a306 us305.length cap307) rfl rfl ?_
    refine wpo_nil ?_
    refine Xn ?_
    refine Xi ?_
    refine Xa ?_
    refine wpo_move (v := .slice a232 us231.length cap233) rfl rfl ?_
    refine wpo_len (by kernel_rfl) rfl rfl ?_
    refine wpo_move (v := .int .i64 0) rfl rfl ?_
    refine wpo_nil ?_
    refine Xv ?_
    refine Ye (fun mm f' w' => ∃ (i : Nat), mm = us231.length - i ∧ i ≤ us231.length ∧ (tabT us231).take i = (tabT us305).take i ∧ w312.grownBy w' none ∧ f' 38 = .int .i64 (i : Int) ∧ f' 7 = .slice a232 us231.length cap233 ∧ f' 8 = .slice a306 us305.length cap307 ∧ f' 37 = .int .i64 (us231.length : Int) ∧ w.grownBy w' none) (us231.length - 0) ⟨0, rfl, (Nat.zero_le _), rfl, (World.grownBy.refl _ none), rfl, rfl, rfl, rfl, hb315⟩ ?_
    rintro mm f317 w318 ⟨i, hm320, hi, ha, hgl316, e321, e322, e323, e324, hb319⟩
    have heq := Uy he234 h150 h154
    have heq2 := Uy he308 h152 h154
    refine Xa ?_
    refine wpo_lss (q := decide ((i : Int) < (us231.length : Int))) e321 e324 rfl rfl ?_
    refine wpo_nil ?_
    refine Xi ?_
    refine Xq rfl (fun h325 => ?_) (fun h325 => ?_)
    ·
     have h326 := of_decide_eq_true h325
     refine Xk ?_
     refine Xn ?_
     refine Xi ?_
     refine Xv ?_
     refine Xa ?_
     refine wpo_move (v := .int .i64 (i : Int)) e321 rfl ?_
     refine wpo_assign (v := .int .i64 (i : Int)) rfl rfl ?_
     refine wpo_nil ?_
     refine Xi ?_
     obtain ⟨b371, q372, o373, ha374, ho375, hr376⟩ := SlAt.at (TabAt.low hT235 (Xf hg311 hgl316)).1 (Yh (Xz (show i < us231.length by omega)))
     have hle377 := TabLen.at hTl239 (Xz (show i < us231.length by omega))
     obtain ⟨b380, q381, o382, ha383, ho384, hr385⟩ := SlAt.at (TabAt.low hT309 hgl316).1 (Yh (Xz (show i < us305.length by omega)))
     have hle386 := TabLen.at hTl313 (Xz (show i < us305.length by omega))
     refine Qh (m := 8) (vals := [(41, .slice a232 us231.length cap233), (42, .int .i64 (i : Int)), (43, .pointer (some ⟨b371, o373, none⟩)), (44, .agg #[.int .i64 ((mAt us231 i).t.kind), .int .i64 ((mAt us231 i).t.lab.s), .int .i64 ((mAt us231 i).t.lab.v), .int .i64 ((mAt us231 i).t.ve), .int .i64 ((mAt us231 i).t.num), .slice ((mAt us231 i).sa) ((mAt us231 i).t.slots.length) ((mAt us231 i).sc), .slice ((mAt us231 i).qa) ((mAt us231 i).t.queue.length) ((mAt us231 i).qc), .int .i64 ((mAt us231 i).t.to)]), (45, .slice a306 us305.length cap307), (46, .int .i64 (i : Int)), (47, .pointer (some ⟨b380, o382, none⟩)), (48, .agg #[.int .i64 ((mAt us305 i).t.kind), .int .i64 ((mAt us305 i).t.lab.s), .int .i64 ((mAt us305 i).t.lab.v), .int .i64 ((mAt us305 i).t.ve), .int .i64 ((mAt us305 i).t.num), .slice ((mAt us305 i).sa) ((mAt us305 i).t.slots.length) ((mAt us305 i).sc), .slice ((mAt us305 i).qa) ((mAt us305 i).t.queue.length) ((mAt us305 i).qc), .int .i64 ((mAt us305 i).t.to)])]) (fun w' => w318.grownBy w' none) Qq (by kernel_rfl) (X5 _) ?_ ?_
     ·
      refine Xd rfl (fun w390 hi391 => ?_) ?_
      ·
       have hb392 := low0 hb319 hi391
       refine wpo_move (v := .slice a232 us231.length cap233) e322 rfl ?_
       exact wpo_nil ⟨rfl, hi391⟩
      refine Xd rfl (fun w393 hi394 => ?_) ?_
      ·
       have hb395 := low0 hb319 hi394
       refine wpo_move (v := .int .i64 (i : Int)) rfl rfl ?_
       exact wpo_nil ⟨rfl, hi394⟩
      refine Xd rfl (fun w396 hi397 => ?_) ?_
      ·
       have hb398 := low0 hb319 hi397
       refine X2 Qp rfl rfl ha374 ho375 (by omega) (by omega) rfl ?_
       exact wpo_nil ⟨rfl, hi397⟩
      refine Xd rfl (fun w399 hi400 => ?_) ?_
      ·
       have hb401 := low0 hb319 hi400
       refine wpo_loadn (vs := [.int .i64 ((mAt us231 i).t.kind), .int .i64 ((mAt us231 i).t.lab.s), .int .i64 ((mAt us231 i).t.lab.v), .int .i64 ((mAt us231 i).t.ve), .int .i64 ((mAt us231 i).t.num), .slice ((mAt us231 i).sa) ((mAt us231 i).t.slots.length) ((mAt us231 i).sc), .slice ((mAt us231 i).qa) ((mAt us231 i).t.queue.length) ((mAt us231 i).qc), .int .i64 ((mAt us231 i).t.to)]) Xx rfl rfl (Qa (Yp hr376 hi400) 0 8 rfl) rfl ?_
       exact wpo_nil ⟨rfl, hi400⟩
      refine Xd rfl (fun w402 hi403 => ?_) ?_
      ·
       have hb404 := low0 hb319 hi403
       refine wpo_move (v := .slice a306 us305.length cap307) e323 rfl ?_
       exact wpo_nil ⟨rfl, hi403⟩
      refine Xd rfl (fun w405 hi406 => ?_) ?_
      ·
       have hb407 := low0 hb319 hi406
       refine wpo_move (v := .int .i64 (i : Int)) rfl rfl ?_
       exact wpo_nil ⟨rfl, hi406⟩
      refine Xd rfl (fun w408 hi409 => ?_) ?_
      ·
       have hb410 := low0 hb319 hi409
       refine X2 Qp rfl rfl ha383 ho384 (by omega) (by omega) rfl ?_
       exact wpo_nil ⟨rfl, hi409⟩
      refine Xd rfl (fun w411 hi412 => ?_) ?_
      ·
       have hb413 := low0 hb319 hi412
       refine wpo_loadn (vs := [.int .i64 ((mAt us305 i).t.kind), .int .i64 ((mAt us305 i).t.lab.s), .int .i64 ((mAt us305 i).t.lab.v), .int .i64 ((mAt us305 i).t.ve), .int .i64 ((mAt us305 i).t.num), .slice ((mAt us305 i).sa) ((mAt us305 i).t.slots.length) ((mAt us305 i).sc), .slice ((mAt us305 i).qa) ((mAt us305 i).t.queue.length) ((mAt us305 i).qc), .int .i64 ((mAt us305 i).t.to)]) Xx rfl rfl (Qa (Yp hr385 hi412) 0 8 rfl) rfl ?_
       exact wpo_nil ⟨rfl, hi412⟩
      exact Q0
     ·
      intro w414 hi415
      have hb416 := low0 hb319 hi415
      refine Xh (vs := [.agg #[.int .i64 ((mAt us231 i).t.kind), .int .i64 ((mAt us231 i).t.lab.s), .int .i64 ((mAt us231 i).t.lab.v), .int .i64 ((mAt us231 i).t.ve), .int .i64 ((mAt us231 i).t.num), .slice ((mAt us231 i).sa) ((mAt us231 i).t.slots.length) ((mAt us231 i).sc), .slice ((mAt us231 i).qa) ((mAt us231 i).t.queue.length) ((mAt us231 i).qc), .int .i64 ((mAt us231 i).t.to)], .agg #[.int .i64 ((mAt us305 i).t.kind), .int .i64 ((mAt us305 i).t.lab.s), .int .i64 ((mAt us305 i).t.lab.v), .int .i64 ((mAt us305 i).t.ve), .int .i64 ((mAt us305 i).t.num), .slice ((mAt us305 i).sa) ((mAt us305 i).t.slots.length) ((mAt us305 i).sc), .slice ((mAt us305 i).qa) ((mAt us305 i).t.queue.length) ((mAt us305 i).qc), .int .i64 ((mAt us305 i).t.to)]]) Iz (Xb rfl (Xb rfl Xg)) rfl (P0 (mAt us231 i) (mAt us305 i) _ (TabAt.th (TabAt.low hT235 (Xf (Xf hg311 hgl316) hi415)) (Xz (show i < us231.length by omega))) (TabAt.th (TabAt.low hT309 (Xf hgl316 hi415)) (Xz (show i < us305.length by omega))) ⟨by first | omega | exact Nat.le_of_ble_eq_true rfl | (simp only [List.length_nil, List.length_cons, List.length_append, List.length_replicate]; omega), by first | omega | exact Nat.le_of_ble_eq_true rfl | (simp only [List.length_nil, List.length_cons, List.length_append, List.length_replicate]; omega)⟩ ⟨by first | omega | exact Nat.le_of_ble_eq_true rfl | (simp only [List.length_nil, List.length_cons, List.length_append, List.length_replicate]; omega), by first | omega | exact Nat.le_of_ble_eq_true rfl | (simp only [List.length_nil, List.length_cons, List.length_append, List.length_replicate]; omega)⟩) ?_
      rintro _ w417 ⟨rfl, hg418⟩
      have hb419 := low0 hb416 hg418
      refine wpo_not (b' := !(decide ((mAt us231 i).t = (mAt us305 i).t))) rfl rfl rfl ?_
      refine wpo_nil ?_
      refine Xn ?_
      refine Xq rfl (fun h420 => ?_) (fun h420 => ?_)
      ·
       have h421 := Q3 h420
       have h422 := of_decide_eq_false h421
       refine Xa ?_
       refine wpo_assign (v := .bool false) rfl rfl ?_
       refine wpo_nil ?_
       refine Xj ?_
       refine Qd ?_
       refine X7 ?_
       refine X7 ?_
       refine Qd ?_
       refine X7 ?_
       refine ⟨.bool false, res1 rfl rfl, ?_, hb419⟩
       exact congrArg Value.bool (Ra (i := i) he234 he308 (of_decide_eq_false h421))
      ·
       have h423 := Y9 h420
       have h424 := of_decide_eq_true h423
       refine Xk ?_
       refine Yy ?_
       refine Xn ?_
       refine Xl ?_
       refine wpo_add (c := (i : Int) + 1) e321 rfl (by omega) (by omega) (by omega) rfl ?_
       refine wpo_move (v := .int .i64 ((i : Int) + 1)) rfl rfl ?_
       refine wpo_nil ?_
       refine Xn ?_
       exact ⟨us231.length - (i + 1), by omega, (i + 1), rfl, (by omega), (Mn ha (by omega) (by omega) (of_decide_eq_true h423)), (low0 (low0 hgl316 hi415) hg418), rfl, e322, e323, e324, hb419⟩
    ·
     have h425 := of_decide_eq_false h325
     refine Yj ?_
     refine Yt ?_
     refine Yt ?_
     refine Jf ?_
     refine Xn ?_
     refine Xa ?_
     refine wpo_assign (v := .bool true) rfl rfl ?_
     refine wpo_nil ?_
     refine Xj ?_
     refine ⟨.bool true, res1 rfl rfl, ?_, hb319⟩
     exact congrArg Value.bool (Nn he234 he308 h150 h152 h154 (by omega) ha (by omega))
end Go.Dw.J
end
section
namespace Go.Dw.J
open Go.RowKit Go.Dw Go.Proofs
set_option linter.unusedSectionVars false
set_option linter.unusedSimpArgs false
set_option linter.unusedVariables false
def ThLt (hi : Nat) (w : World) (m : MTh) : Prop := SlLt hi w m.sa 5 (m.t.slots.map Rt.cells) ∧ SlLt hi w m.qa 1 (m.t.queue.map icell) ∧ (m.sa = none → m.sc = 0) ∧ (m.qa = none → m.qc = 0)
def TabLt (hi : Nat) (w : World) (a : Option Addr) (ts : List MTh) : Prop := SlLt hi w a 8 (ts.map MTh.cells) ∧ ∀ m ∈ ts, ThLt hi w m
theorem ThLt.of {w : World} {m : MTh} (h : ThAt w m) : ThLt w.heap.size w m := ⟨h.1.lt Y5 (by omega), h.2.1.lt Yb (by omega), h.2.2⟩
theorem TabLt.of {w : World} {a : Option Addr} {ts : List MTh} (h : TabAt w a ts) : TabLt w.heap.size w a ts := ⟨h.1.lt Ym (by omega), fun m hm => .of (h.2 m hm)⟩
theorem TabLt.of' {w : World} {a : Option Addr} {ts : List MTh} {hi : Nat} (h : TabAt w a ts) (e : hi = w.heap.size) : TabLt hi w a ts := e ▸ .of h
section
variable {hi : Nat} {w w' : World} {m : MTh} {a : Option Addr} {ts : List MTh}
theorem ThLt.low0 (h : ThLt hi w m) (hg : w.grownBy w' none) : ThLt hi w' m := ⟨h.1.low0 hg, h.2.1.low0 hg, h.2.2⟩
theorem ThLt.low1 (h : ThLt hi w m) {c : Nat} (hg : w.grownBy w' (some c)) (hc : hi ≤ c) : ThLt hi w' m := ⟨h.1.low1 hg hc, h.2.1.low1 hg hc, h.2.2⟩
theorem TabLt.low0 (h : TabLt hi w a ts) (hg : w.grownBy w' none) : TabLt hi w' a ts := ⟨h.1.low0 hg, fun m hm => (h.2 m hm).low0 hg⟩
theorem TabLt.low1 (h : TabLt hi w a ts) {c : Nat} (hg : w.grownBy w' (some c)) (hc : hi ≤ c) : TabLt hi w' a ts := ⟨h.1.low1 hg hc, fun m hm => (h.2 m hm).low1 hg hc⟩
theorem TabLt.at (h : TabLt hi w a ts) : TabAt w a ts := ⟨h.1.sl, fun m hm => let ⟨h1, h2, h3⟩ := h.2 m hm; ⟨h1.sl, h2.sl, h3⟩⟩
end
def RowH (lo hi : Nat) (w : World) (m : MTh) : Prop := SlLt hi w m.sa 5 (m.t.slots.map Rt.cells) ∧ (SlLt hi w m.qa 1 (m.t.queue.map icell) ∨ OwnN lo w m.qa 3 1 m.qc m.t.queue.length (m.t.queue.flatMap icell)) ∧ (m.sa = none → m.sc = 0) ∧ (m.qa = none → m.qc = 0)
def RowsH (lo hi X : Nat) (w : World) (ys : List MTh) : Prop := hi ≤ X ∧ ∀ m ∈ ys, RowH lo hi w m
section
variable {lo hi X : Nat} {w w' : World} {m : MTh} {ys : List MTh}
theorem RowsH.of {a : Option Addr} (h : TabLt hi w a ys) (hX : hi ≤ X) : RowsH lo hi X w ys := ⟨hX, fun m hm => let ⟨h1, h2, h3⟩ := h.2 m hm; ⟨h1, .inl h2, h3⟩⟩
theorem RowsH.low (h : RowsH lo hi X w ys) (hg : w.grownBy w' none) : RowsH lo hi X w' ys := ⟨h.1, fun m hm => let ⟨h1, h2, h3⟩ := h.2 m hm; ⟨h1.low0 hg, h2.imp (·.low0 hg) (·.grown0 hg), h3⟩⟩
theorem RowsH.own (h : RowsH lo hi X w ys) (hg : w.grownBy w' (some X)) {U sz cap n : Nat} {us : List Value} (k : Own w X U sz cap n us) (h1 : 74 ≠ U) (h2 : 3 ≠ U) : RowsH lo hi X w' ys :=
  ⟨h.1, fun m hm => let ⟨q1, q2, q3⟩ := h.2 m hm; ⟨q1.low1 hg h.1, q2.imp (·.low1 hg h.1) (·.typ hg k h2), q3⟩⟩
theorem RowsH.set {i : Nat} (h : RowsH lo hi X w ys) (hi' : i < ys.length) {m' : MTh} (hq : m'.qa = (mAt ys i).qa ∧ m'.qc = (mAt ys i).qc ∧ m'.t.queue = (mAt ys i).t.queue) (hs : m'.sa = (mAt ys i).sa ∧ m'.sc = (mAt ys i).sc ∧ m'.t.slots = (mAt ys i).t.slots) : RowsH lo hi X w (ys.set i m') := ⟨h.1, fun m hm => by
  rcases List.mem_or_eq_of_mem_set hm with h3 | rfl
  · exact h.2 m h3
  · have h0 := h.2 _ (List.mem_of_getElem? (Xz hi'))
    unfold RowH
    rw [hq.1, hq.2.1, hq.2.2, hs.1, hs.2.1, hs.2.2]
    exact h0⟩
theorem RowsH.setq {i : Nat} (h : RowsH lo hi X w ys) (hi' : i < ys.length) {m' : MTh} (hq : OwnN lo w m'.qa 3 1 m'.qc m'.t.queue.length (m'.t.queue.flatMap icell)) (hs : m'.sa = (mAt ys i).sa ∧ m'.sc = (mAt ys i).sc ∧ m'.t.slots = (mAt ys i).t.slots) : RowsH lo hi X w (ys.set i m') := ⟨h.1, fun m hm => by
  rcases List.mem_or_eq_of_mem_set hm with h3 | rfl
  · exact h.2 m h3
  · have h0 := h.2 _ (List.mem_of_getElem? (Xz hi'))
    refine ⟨?_, .inr hq, ?_, OwnN.cap0 hq⟩
    · rw [hs.1, hs.2.2]; exact h0.1
    · rw [hs.1, hs.2.1]; exact h0.2.2.1⟩
theorem RowH.th (h : RowH lo hi w m) : ThAt w m := ⟨h.1.sl, h.2.1.elim (·.sl) (fun h => OwnN.sl Yb (by omega) h), h.2.2⟩
theorem RowsH.tab {T cap : Nat} (h : RowsH lo hi X w ys) (ho : Own w X T 8 cap ys.length (ys.flatMap MTh.cells)) : TabAt w (some ⟨X, 0, none⟩) ys := ⟨Own.sl Ym ho, fun m hm => (h.2 m hm).th⟩
end
theorem Rr [Comp] {P : Program} {k : FuncId} {n n' : Nat} (e : n = n') {a : Option Addr} {c : Nat} {v : Value} {w : World} {R : Value → World → Prop} (h : CallsR P k #[.slice a n c, v] w R) : CallsR P k #[.slice a n' c, v] w R := by subst e; exact h
theorem N1 [Comp] {P : Program} {k : FuncId} {n n' : Nat} (e : n = n') {a : Option Addr} {c : Nat} {u v : Value} {w : World} {R : Value → World → Prop} (h : CallsR P k #[.slice a n c, u, v] w R) : CallsR P k #[.slice a n' c, u, v] w R := by subst e; exact h
def HidT (ms ys : List MTh) (l : Lab) : Prop := tableOk (tabT ys) = true ∧ viewTab (tabT ys) l = viewTab (tabT ms) l
theorem Pb {ts : List Th} {i k : Nat} {t : Th} (hi : i < ts.length) : (ts.set i t).getD k Th.zero = if k = i then t else ts.getD k Th.zero := by
  rw [List.getD_eq_getElem?_getD, List.getD_eq_getElem?_getD, List.getElem?_set]
  by_cases h : i = k
  · subst h; rw [if_pos rfl, if_pos hi, if_pos rfl]; rfl
  · rw [if_neg h, if_neg (fun e => h e.symm)]
theorem P7 {ts : List Th} {i : Nat} {t : Th} (h : tableOk ts = true) (hi : i < ts.length) (ht : thingOk t = true) (h1 : t.kind = ts[i].kind) (h2 : t.ve = ts[i].ve) (h3 : t.slots = ts[i].slots) (h4 : t.to = ts[i].to) : tableOk (ts.set i t) = true := by
  have hget : ts.getD i Th.zero = ts[i] := by rw [List.getD_eq_getElem?_getD, List.getElem?_eq_getElem hi]; rfl
  have hk : ∀ k, (thAt (ts.set i t) k).kind = (thAt ts k).kind := fun k => by
    unfold thAt
    rw [Pb hi]
    split
    · rename_i e; rw [e, hget, h1]
    · rfl
  have hv : ∀ k, (thAt (ts.set i t) k).ve = (thAt ts k).ve := fun k => by
    unfold thAt
    rw [Pb hi]
    split
    · rename_i e; rw [e, hget, h2]
    · rfl
  have hka : ∀ k kd, kindAt (ts.set i t) k kd = kindAt ts k kd := fun k kd => by unfold kindAt; rw [List.length_set, hk]
  have hr : ∀ r, rightTo (ts.set i t) r = rightTo ts r := fun r => by unfold rightTo; rw [List.length_set, hv]
  unfold tableOk at h ⊢
  simp only [Bool.and_eq_true, List.all_eq_true] at h ⊢
  obtain ⟨a1, a2, a3⟩ := h
  refine ⟨by rw [List.length_set]; exact a1, fun u hu => ?_, fun u hu r hr' => ?_⟩
  · rcases List.mem_or_eq_of_mem_set hu with h5 | rfl
    · refine ⟨(a2 u h5).1, ?_⟩
      have := (a2 u h5).2
      unfold gateOk at this ⊢
      rw [hka]; exact this
    · refine ⟨ht, ?_⟩
      have := (a2 _ (List.getElem_mem hi)).2
      unfold gateOk at this ⊢
      rw [hka, h1, h4]; exact this
  · rw [hr]
    rcases List.mem_or_eq_of_mem_set hu with h5 | rfl
    · exact a3 u h5 r hr'
    · rw [h3] at hr'
      exact a3 _ (List.getElem_mem hi) r hr'
theorem HidT.set {ms ys : List MTh} {l : Lab} {i : Nat} {x : MTh} (hH : HidT ms ys l) (h0 : tableOk (tabT ms) = true) (hl : labelOk l = true) (he : ys.length = ms.length) (hi : i < ys.length) (hv : viewHigh (tabT ms) ((i : Int) + 1) l = true) (ht : thingOk x.t = true)
    (h1 : x.t.kind = (mAt ys i).t.kind) (h2 : x.t.ve = (mAt ys i).t.ve) (h3 : x.t.slots = (mAt ys i).t.slots) (h4 : x.t.to = (mAt ys i).t.to) (h5 : x.t.lab = (mAt ys i).t.lab) : HidT ms (ys.set i x) l := by
  have hi2 : i < (tabT ys).length := by rw [Yd]; exact hi
  have hget : (tabT ys)[i] = (mAt ys i).t := by rw [Pk, List.getD_eq_getElem?_getD, List.getElem?_eq_getElem hi2]; rfl
  have e : tabT (ys.set i x) = (tabT ys).set i x.t := by unfold tabT; rw [List.map_set]
  have hok := P7 (t := x.t) hH.1 hi2 ht (by rw [hget, h1]) (by rw [hget, h2]) (by rw [hget, h3]) (by rw [hget, h4])
  refine ⟨by rw [e]; exact hok, ?_⟩
  rw [← hH.2, e, K8 hok hl, K8 hH.1 hl, List.map_set]
  have hty := Kt hH.1 hi
  have hf : labelFlow (mAt ys i).t.lab l = false := by
    rw [← H0] at hv
    simp only [Bool.and_eq_true, Bool.not_eq_true'] at hv
    have e1 : ((i : Int) + 1 - 1).toNat = i := by omega
    rw [e1] at hv
    have h6 := congrArg (fun L : List Th => L.getD i Th.zero) hH.2
    simp only [K8 hH.1 hl, K8 h0 hl, List.getD_eq_getElem?_getD, List.getElem?_map, List.getElem?_eq_getElem hi2, List.getElem?_eq_getElem (show i < (tabT ms).length by rw [Yd]; omega), Option.map_some, Option.getD_some] at h6
    have hget2 : (tabT ms)[i]'(by rw [Yd]; omega) = (mAt ms i).t := by rw [Pk, List.getD_eq_getElem?_getD, List.getElem?_eq_getElem (show i < (tabT ms).length by rw [Yd]; omega)]; rfl
    rw [hget, hget2] at h6
    have k1 := (Gq (l := l) hty).2.1
    have k2 := (Gq (l := l) (Kt h0 (i := i) (by omega))).2.1
    rw [← k1, h6, k2]
    exact hv.2
  have hx : viewTh x.t l = viewTh (mAt ys i).t l := by
    unfold viewTh
    rw [h5, hf, h1, h4]; rfl
  rw [hx, ← hget]
  refine List.ext_getElem (by simp) fun j hj hj2 => ?_
  rw [List.getElem_set]
  split
  · rename_i e3; subst e3; rw [List.getElem_map]
  · rfl
theorem Fi {t : Th} {n : Int} (h : thingOk t = true) (hk : decide (t.kind = 1) = true) (hn : 0 ≤ n ∧ n ≤ 99) : thingOk ⟨t.kind, t.lab, t.ve, n, t.slots, t.queue, t.to⟩ = true := by
  obtain ⟨h1, h2, h3, h4, h5, h6, h7⟩ := Jb h
  have hk := of_decide_eq_true hk
  unfold thingOk
  simp only [Bool.and_eq_true]
  refine ⟨⟨⟨⟨⟨⟨h1, h2⟩, h3⟩, ?_⟩, h5⟩, h6⟩, h7⟩
  unfold numOk
  rw [if_pos (.inl hk)]
  exact Kh.2 hn
theorem Fj {t : Th} {n : Int} (h : thingOk t = true) (hk : decide (t.kind = 4) = true) (hn : 0 ≤ n ∧ n ≤ 99) : thingOk ⟨t.kind, t.lab, t.ve, t.num, t.slots, [n, 4], t.to⟩ = true := by
  obtain ⟨h1, h2, h3, h4, h5, h6, h7⟩ := Jb h
  have hk := of_decide_eq_true hk
  unfold thingOk
  simp only [Bool.and_eq_true]
  refine ⟨⟨⟨⟨⟨⟨h1, h2⟩, h3⟩, h4⟩, h5⟩, ?_⟩, h7⟩
  unfold queueOk
  rw [if_pos hk]
  have := Kh.2 hn
  simp only [numQ, List.all_cons, this]
  rfl
theorem Bn {ms ys : List MTh} {l : Lab} (hH : HidT ms ys l) (h0 : tableOk (tabT ms) = true) (hl : labelOk l = true) (he : ys.length = ms.length) : viewSame (tabT ys) (tabT ms) l = true := by
  unfold viewSame
  rw [hH.1, h0, hl, hH.2, Yd, Yd, he]
  simp
end Go.Dw.J
end
section
namespace Go.Dw.J
open Go.RowKit Go.Dw Go.Proofs
set_option linter.unusedSectionVars false
set_option maxRecDepth 100000
set_option maxHeartbeats 4000000
set_option linter.unusedSimpArgs false
set_option linter.unusedVariables false
theorem Il : goFn Try.prog 11 = true := by kernel_rfl
theorem Bi : goFn Try.prog 13 = true := by kernel_rfl
theorem Ej : goFn Try.prog 14 = true := by kernel_rfl
theorem Bj : goFn Try.prog 21 = true := by kernel_rfl
theorem Ip : goFn Try.prog 24 = true := by kernel_rfl
theorem law_FnHighText [Comp] [ViewRule] (bs : List Int) (a : Option Addr) (c : Nat) (w : World) (hs0 : SlAt w a 1 (bs.map bcell)) (hb : ∀ b ∈ bs, 0 ≤ b ∧ b ≤ 255) (hn : bs.length ≤ 9223372036854775807) (hc : bs.length ≤ c) (m : Nat) (a2 : Option Addr) (c2 : Nat) (hm : m ≤ 9223372036854775807) (hKB : ViewRule.base ≤ w.heap.size) : Wpf Try.prog 108 (endQ Try.prog Try.f6 (fun v w' => v = .bool true ∧ w.grownBy w' none)) (Try.f6.body.getD .skip) (f0 #[.slice a bs.length c, .slice a2 m c2]) w := by
 have hb0 := World.grownBy.refl w none
 have hs := SlAt.lt Nr (by omega) hs0
 refine Xa ?_
 refine wpo_assign (v := .bool false) rfl rfl ?_
 refine wpo_nil ?_
 refine Xi ?_
 refine Xs (fun f' w' => (f' 0 = .slice a bs.length c ∧ f' 1 = .slice a2 m c2 ∧ f' 4 = .bool false ∧ f' 17 = .bool ((decide (1048576 < (bs.length : Int))) || (decide (1048576 < (m : Int))))) ∧ w = w') ?_ ?_
 ·
  refine wpo_move (v := .slice a bs.length c) rfl rfl ?_
  refine wpo_len (by kernel_rfl) rfl rfl ?_
  refine wpo_gtr (q := decide (1048576 < (bs.length : Int))) rfl rfl rfl rfl ?_
  refine wpo_move (v := .bool (decide (1048576 < (bs.length : Int)))) rfl rfl ?_
  rcases Xy (decide (1048576 < (bs.length : Int))) with h101 | h101
  ·
   have h102 := of_decide_eq_true h101
   iterate 3 refine Xe rfl rfl rfl h101 rfl ?_
   refine wpo_pickt (v := .bool true) rfl h101 rfl rfl ?_
   exact wpo_nil ⟨⟨rfl, rfl, rfl, (congrArg Value.bool (by first | (simp only [h101, b0, b1, b2, b3, b4, b5, b6, b7, b8, b9]; done) | simp [h101]))⟩, rfl⟩
  ·
   have h103 := of_decide_eq_false h101
   refine Xc rfl rfl rfl h101 ?_
   refine wpo_move (v := .slice a2 m c2) rfl rfl ?_
   refine Xc rfl rfl rfl h101 ?_
   refine wpo_len (by kernel_rfl) rfl rfl ?_
   refine Xc rfl rfl rfl h101 ?_
   refine wpo_gtr (q := decide (1048576 < (m : Int))) rfl rfl rfl rfl ?_
   refine wpo_pickf (v := .bool (decide (1048576 < (m : Int)))) rfl h101 rfl rfl ?_
   exact wpo_nil ⟨⟨rfl, rfl, rfl, (congrArg Value.bool (by first | (simp only [h101, b0, b1, b2, b3, b4, b5, b6, b7, b8, b9]; done) | simp [h101]))⟩, rfl⟩
 ·
  rintro f104 w105 ⟨⟨e106, e107, e108, e109⟩, rfl⟩
  refine Xq e109 (fun h110 => ?_) (fun h110 => ?_)
  ·
   refine Xa ?_
   refine wpo_assign (v := .bool true) rfl rfl ?_
   refine wpo_nil ?_
   refine Xj ?_
   refine X7 ?_
   refine ⟨.bool true, res1 rfl rfl, ?_, hb0⟩
   rfl
  ·
   have h111 := J5 h110
   have h112 := of_decide_eq_false h111
   have h113 := J6 h110
   have h114 := of_decide_eq_false h113
   refine Xk ?_
   refine Xn ?_
   refine Xa ?_
   refine wpo_move (v := .slice a bs.length c) e106 rfl ?_
   refine Xh (vs := [.slice a bs.length c]) Il (Xb rfl Xg) rfl (Lu bs a c _ (SlAt.low hs0 hb0) hb (by omega) (by omega)) ?_
   rintro _ w122 ⟨B115, cap116, ms117, l123, rfl, hTG118, hTS119, hTn120, hd124, hg121⟩
   have hb125 := low0 hb0 hg121
   have hTl126 := hTS119.len
   refine wpo_move (v := .tuple #[.slice (some ⟨B115, 0, none⟩) ms117.length cap116, .agg #[.int .i64 l123.s, .int .i64 l123.v]]) rfl rfl ?_
   refine wpo_extract (v := .slice (some ⟨B115, 0, none⟩) ms117.length cap116) rfl rfl rfl ?_
   refine wpo_extract (v := .agg #[.int .i64 l123.s, .int .i64 l123.v]) rfl rfl rfl ?_
   refine wpo_alloc (cs := #[.int .i64 0, .int .i64 0]) Td rfl rfl ?_
   intro B127 w128 hN129
   have hlB127 := X1 hN129 hb125
   have hb130 := low0 hb125 hN129.grw
   refine wpo_assign (v := .slice (some ⟨B115, 0, none⟩) ms117.length cap116) rfl rfl ?_
   refine wpo_storen (vs := [.int .i64 l123.s, .int .i64 l123.v]) (cs' := #[.int .i64 l123.s, .int .i64 l123.v]) Yr rfl rfl rfl (by simp [Value.oneCell']) hN129.blk (Nat.le_of_ble_eq_true rfl) rfl ?_
   intro w131 hS132
   have hb133 := low1 hb130 hS132.grw (by omega)
   refine wpo_nil ?_
   refine Xa ?_
   refine wpo_move (v := .slice (some ⟨B115, 0, none⟩) ms117.length cap116) rfl rfl ?_
   refine wpo_loadn (vs := [.int .i64 l123.s, .int .i64 l123.v]) Yr rfl rfl (hS132.blk.rangeL 0 2 rfl) rfl ?_
   refine Xh (vs := [.slice (some ⟨B115, 0, none⟩) ms117.length cap116, .agg #[.int .i64 l123.s, .int .i64 l123.v]]) S0 (Xb rfl (Xb rfl Xg)) rfl (ViewRule.rule _ ms117 _ _ l123 (Nat.le_trans hKB hb133.size) (TabG.at (TabG.low hTG118 (low1 hN129.grw hS132.grw (Nat.le_trans ((World.grownBy.refl _ none)).size hN129.ge)))) hTl126 (by omega)) ?_
   rintro _ w141 ⟨us134, a135, cap136, rfl, he137, hT138, hnc139, hg140⟩
   have hb144 := low0 hb133 hg140
   have hTl142 := Js he137 hTl126
   have hll143 := Kg he137
   refine wpo_assign (v := .slice a135 us134.length cap136) rfl rfl ?_
   refine wpo_nil ?_
   refine Xi ?_
   refine Xs (fun f' w' => (f' 1 = .slice a2 m c2 ∧ f' 4 = .bool false ∧ f' 5 = .slice (some ⟨B115, 0, none⟩) ms117.length cap116 ∧ f' 6 = .pointer (some ⟨B127, 0, none⟩) ∧ f' 7 = .slice a135 us134.length cap136 ∧ f' 41 = .bool ((false || (!tableOk (tabT ms117))) || (!labelOk l123))) ∧ w141.grownBy w' none) ?_ ?_
   ·
    refine wpo_move (v := .slice a135 us134.length cap136) rfl rfl ?_
    refine wpo_move (v := .slice (some ⟨B115, 0, none⟩) ms117.length cap116) rfl rfl ?_
    have k185 := (hS132.blk.grown0 hg140)
    refine wpo_loadn (vs := [.int .i64 l123.s, .int .i64 l123.v]) Yr rfl rfl (k185.rangeL 0 2 rfl) rfl ?_
    refine Xh (vs := [.slice (some ⟨B115, 0, none⟩) ms117.length cap116, .agg #[.int .i64 l123.s, .int .i64 l123.v]]) Ej (Xb rfl (Xb rfl Xg)) rfl (Ll l123 _ ms117 _ _ (TabG.at (TabG.low hTG118 (low0 (low1 hN129.grw hS132.grw (Nat.le_trans ((World.grownBy.refl _ none)).size hN129.ge)) hg140))) hTl126 (by omega)) ?_
    rintro _ w193 ⟨us186, a187, cap188, rfl, he189, hT190, hnc191, hg192⟩
    have hb196 := low0 hb144 hg192
    have hTl194 := Js he189 hTl126
    have hll195 := Kg he189
    refine Xh (vs := [.slice a135 us134.length cap136, .slice a187 us186.length cap188]) Bi (Xb rfl (Xb rfl Xg)) rfl (W9 _ us134 us186 _ _ _ _ (TabAt.low hT138 hg192) hT190 hTl142 hTl194 (by omega) (by omega)) ?_
    rintro _ w197 ⟨rfl, hg198⟩
    have hb199 := low0 hb196 hg198
    refine wpo_not (b' := false) (congrArg Value.bool (decide_eq_true (he137.trans he189.symm))) rfl rfl ?_
    refine wpo_move (v := .bool false) rfl rfl ?_
    refine Xc rfl rfl rfl rfl ?_
    refine wpo_move (v := .slice (some ⟨B115, 0, none⟩) ms117.length cap116) rfl rfl ?_
    refine Xc rfl rfl rfl rfl ?_
    refine Xh (vs := [.slice (some ⟨B115, 0, none⟩) ms117.length cap116]) Ek (Xb rfl Xg) rfl (U6  _ ms117 _ _ (TabG.at (TabG.low hTG118 (low0 (low0 (low0 (low1 hN129.grw hS132.grw (Nat.le_trans ((World.grownBy.refl _ none)).size hN129.ge)) hg140) hg192) hg198))) hTl126 (by omega)) ?_
    rintro _ w200 ⟨rfl, hg201⟩
    have hb202 := low0 hb199 hg201
    refine Xc rfl rfl rfl rfl ?_
    refine wpo_not (b' := !tableOk (tabT ms117)) rfl rfl rfl ?_
    refine wpo_pickf (v := .bool (!tableOk (tabT ms117))) rfl rfl rfl rfl ?_
    refine wpo_move (v := .bool (!tableOk (tabT ms117))) rfl rfl ?_
    rcases Xy (!tableOk (tabT ms117)) with h203 | h203
    ·
     have h204 := Q3 h203
     iterate 3 refine Xe rfl rfl rfl h203 rfl ?_
     refine wpo_pickt (v := .bool true) rfl h203 rfl rfl ?_
     exact wpo_nil ⟨⟨e107, e108, rfl, rfl, rfl, (congrArg Value.bool (by first | (simp only [h110, h111, h113, h203, h204, b0, b1, b2, b3, b4, b5, b6, b7, b8, b9]; done) | simp [h110, h111, h113, h203, h204]))⟩, (Xf (Xf hg192 hg198) hg201)⟩
    ·
     have h205 := Y9 h203
     refine Xc rfl rfl rfl h203 ?_
     have k206 := (((k185.grown0 hg192).grown0 hg198).grown0 hg201)
     refine wpo_loadn (vs := [.int .i64 l123.s, .int .i64 l123.v]) Yr rfl rfl (k206.rangeL 0 2 rfl) rfl ?_
     refine Xc rfl rfl rfl h203 ?_
     refine Xh (vs := [.agg #[.int .i64 l123.s, .int .i64 l123.v]]) El (Xb rfl Xg) rfl (U5 l123 _) ?_
     rintro _ w207 ⟨rfl, hg208⟩
     have hb209 := low0 hb202 hg208
     refine Xc rfl rfl rfl h203 ?_
     refine wpo_not (b' := !labelOk l123) rfl rfl rfl ?_
     refine wpo_pickf (v := .bool (!labelOk l123)) rfl h203 rfl rfl ?_
     exact wpo_nil ⟨⟨e107, e108, rfl, rfl, rfl, (congrArg Value.bool (by first | (simp only [h110, h111, h113, h203, h205, b0, b1, b2, b3, b4, b5, b6, b7, b8, b9]; done) | simp [h110, h111, h113, h203, h205]))⟩, (Xf (Xf (Xf hg192 hg198) hg201) hg208)⟩
   ·
    rintro f210 w211 ⟨⟨e212, e213, e214, e215, e216, e217⟩, hg218⟩
    have hb219 := low0 hb144 hg218
    refine Xq e217 (fun h220 => ?_) (fun h220 => ?_)
    ·
     refine Xa ?_
     refine wpo_move (v := .slice a135 us134.length cap136) e216 rfl ?_
     refine wpo_move (v := .slice (some ⟨B115, 0, none⟩) ms117.length cap116) e214 rfl ?_
     have k221 := ((hS132.blk.grown0 hg140).grown0 hg218)
     refine wpo_loadn (vs := [.int .i64 l123.s, .int .i64 l123.v]) Yr e215 rfl (k221.rangeL 0 2 rfl) rfl ?_
     refine Xh (vs := [.slice (some ⟨B115, 0, none⟩) ms117.length cap116, .agg #[.int .i64 l123.s, .int .i64 l123.v]]) Ej (Xb rfl (Xb rfl Xg)) rfl (Ll l123 _ ms117 _ _ (TabG.at (TabG.low hTG118 (low0 (low0 (low1 hN129.grw hS132.grw (Nat.le_trans ((World.grownBy.refl _ none)).size hN129.ge)) hg140) hg218))) hTl126 (by omega)) ?_
     rintro _ w229 ⟨us222, a223, cap224, rfl, he225, hT226, hnc227, hg228⟩
     have hb232 := low0 hb219 hg228
     have hTl230 := Js he225 hTl126
     have hll231 := Kg he225
     refine Xh (vs := [.slice a135 us134.length cap136, .slice a223 us222.length cap224]) Bi (Xb rfl (Xb rfl Xg)) rfl (W9 _ us134 us222 _ _ _ _ (TabAt.low hT138 (Xf hg218 hg228)) hT226 hTl142 hTl230 (by omega) (by omega)) ?_
     rintro _ w233 ⟨rfl, hg234⟩
     have hb235 := low0 hb232 hg234
     refine wpo_assign (v := .bool true) (congrArg Value.bool (decide_eq_true (he137.trans he225.symm))) rfl ?_
     refine wpo_nil ?_
     refine Xj ?_
     refine X7 ?_
     refine ⟨.bool true, res1 rfl rfl, ?_, hb235⟩
     rfl
    ·
     have h236 := J5 h220
     have h237 := J5 h236
     have h238 := J6 h236
     have h239 := Y9 h238
     have h240 := J6 h220
     have h241 := Y9 h240
     refine Xk ?_
     refine Xn ?_
     refine Xa ?_
     refine wpo_buildSlice (ps := []) (e := 35) (cs := (([] : List MTh).flatMap MTh.cells).toArray) Xw (fun _ => by kernel_rfl) rfl ?_
     intro B242 w243 hN244
     have hlB242 := X1 hN244 hb219
     have k245 := ((hS132.blk.grown0 hg140).grown0 hg218)
     have lt_B127_B242 := Xo hN244 (k245).lt
     have hb246 := low0 hb219 hN244.grw
     refine wpo_move (v := .slice (some ⟨B115, 0, none⟩) ms117.length cap116) e214 rfl ?_
     obtain ⟨hx, hhx249⟩ : ∃ n, n = w243.heap.size := ⟨_, rfl⟩
     have hLm247 := TabLt.of' (TabG.at (TabG.low hTG118 (low0 (low0 (low0 (low1 hN129.grw hS132.grw (Nat.le_trans ((World.grownBy.refl _ none)).size hN129.ge)) hg140) hg218) hN244.grw))) hhx249
     have hLu248 := TabLt.of' (TabAt.low hT138 (Xf hg218 hN244.grw)) hhx249
     have k250 := (k245.grown0 hN244.grw)
     refine wpo_append0 (g := MTh.cells) (zs := ms117) S4 rfl Ym (by omega) rfl rfl (TabG.at (TabG.low hTG118 (low0 (low0 (low0 (low1 hN129.grw hS132.grw (Nat.le_trans ((World.grownBy.refl _ none)).size hN129.ge)) hg140) hg218) hN244.grw))).1 (by omega) (by omega) (by omega) rfl ?_
     intro X251 cap252 w253 hN254
     have hlX251 : w.heap.size ≤ X251 := Nat.le_trans hb246.size hN254.ge
     have hxX251 : hx ≤ X251 := by rw [hhx249]; exact hN254.ge
     have lt_B127_X251 : B127 < X251 := Nat.lt_of_lt_of_le (k250).lt hN254.ge
     have lt_B242_X251 : B242 < X251 := Nat.lt_of_lt_of_le (hN244.blk).lt hN254.ge
     have hb255 := low0 hb246 hN254.grw
     have hRO256 : RowsH w.heap.size hx X251 w253 ms117 := RowsH.of (TabLt.low0 hLm247 hN254.grw) hxX251
     refine wpo_assign (v := .slice (some ⟨X251, 0, none⟩) ms117.length cap252) rfl rfl ?_
     refine wpo_nil ?_
     refine Xi ?_
     refine Xa ?_
     refine wpo_assign (v := .int .i64 0) rfl rfl ?_
     refine wpo_nil ?_
     refine Xv ?_
     have k257 := (k250.grown0 hN254.grw)
     refine Ye (fun mm f' w' => ∃ (i : Nat) (ys : List MTh), mm = ms117.length - i ∧ ys.length = ms117.length ∧ i ≤ ms117.length ∧ TabLt hx w' (some ⟨B115, 0, none⟩) ms117 ∧ TabLt hx w' (a135) us134 ∧ RowsH w.heap.size hx X251 w' ys ∧ Dw.Own w' X251 35 8 cap252 ys.length (ys.flatMap MTh.cells) ∧ TabLen ys ∧ HidT ms117 ys l123 ∧ f' 9 = .int .i64 (i : Int) ∧ f' 1 = .slice a2 m c2 ∧ f' 4 = .bool false ∧ f' 5 = .slice (some ⟨B115, 0, none⟩) ms117.length cap116 ∧ f' 6 = .pointer (some ⟨B127, 0, none⟩) ∧ f' 7 = .slice a135 us134.length cap136 ∧ f' 8 = .slice (some ⟨X251, 0, none⟩) ms117.length cap252 ∧ w.grownBy w' none ∧ Blk w' B127 25 #[.int .i64 l123.s, .int .i64 l123.v]) (ms117.length - 0) ⟨0, ms117, rfl, rfl, (Nat.zero_le _), (TabLt.low0 hLm247 hN254.grw), (TabLt.low0 hLu248 hN254.grw), hRO256, hN254.own, hTl126, ⟨h239, rfl⟩, rfl, e212, e213, e214, e215, e216, rfl, hb255, k257⟩ ?_
     rintro mm f258 w259 ⟨i, ys, hm261, hyl, hiy, hLm, hLu, hRO, hOx, hTLy, hHid, e262, e263, e264, e265, e266, e267, e268, hb260, k269⟩
     refine Xi ?_
     refine Xa ?_
     refine wpo_move (v := .int .i64 (i : Int)) e262 rfl ?_
     refine wpo_move (v := .slice (some ⟨X251, 0, none⟩) ms117.length cap252) e268 rfl ?_
     refine wpo_len (by kernel_rfl) rfl rfl ?_
     refine wpo_lss (q := decide ((i : Int) < (ms117.length : Int))) rfl rfl rfl rfl ?_
     refine wpo_nil ?_
     refine Xq rfl (fun h270 => ?_) (fun h270 => ?_)
     ·
      have h271 := of_decide_eq_true h270
      refine Xk ?_
      refine Xn ?_
      refine Xi ?_
      refine Xv ?_
      refine Xi ?_
      refine Xs (fun f' w' => (f' 1 = .slice a2 m c2 ∧ f' 4 = .bool false ∧ f' 5 = .slice (some ⟨B115, 0, none⟩) ms117.length cap116 ∧ f' 6 = .pointer (some ⟨B127, 0, none⟩) ∧ f' 7 = .slice a135 us134.length cap136 ∧ f' 8 = .slice (some ⟨X251, 0, none⟩) ms117.length cap252 ∧ f' 9 = .int .i64 (i : Int) ∧ f' 68 = .bool (viewHigh (tabT ms117) ((i : Int) + 1) l123 && (decide ((mAt ys i).t.kind = 1)))) ∧ w259.grownBy w' none) ?_ ?_
      ·
       refine wpo_move (v := .slice (some ⟨B115, 0, none⟩) ms117.length cap116) e265 rfl ?_
       refine wpo_move (v := .int .i64 (i : Int)) e262 rfl ?_
       refine wpo_add (c := (i : Int) + 1) rfl rfl (by omega) (by omega) (by omega) rfl ?_
       refine wpo_loadn (vs := [.int .i64 l123.s, .int .i64 l123.v]) Yr e266 rfl (k269.rangeL 0 2 rfl) rfl ?_
       refine Xh (vs := [.slice (some ⟨B115, 0, none⟩) ms117.length cap116, .int .i64 ((i : Int) + 1), .agg #[.int .i64 l123.s, .int .i64 l123.v]]) Bj (Xb rfl (Xb rfl (Xb rfl Xg))) rfl (U0 ((i : Int) + 1) l123 (by omega) _ ms117 _ _ (TabLt.at hLm) hTl126 (by omega)) ?_
       rintro _ w279 ⟨rfl, hg280⟩
       have hb281 := low0 hb260 hg280
       refine wpo_move (v := .bool (viewHigh (tabT ms117) ((i : Int) + 1) l123)) rfl rfl ?_
       rcases Xy (viewHigh (tabT ms117) ((i : Int) + 1) l123) with h282 | h282
       ·
        refine Xc rfl rfl rfl h282 ?_
        refine wpo_move (v := .slice (some ⟨X251, 0, none⟩) ms117.length cap252) e268 rfl ?_
        refine Xc rfl rfl rfl h282 ?_
        refine wpo_move (v := .int .i64 (i : Int)) e262 rfl ?_
        refine Xc rfl rfl rfl h282 ?_
        refine wpo_indexAddr (o' := i * 8) Qp rfl rfl (by omega) (by omega) (by omega) rfl ?_
        refine Xc rfl rfl rfl h282 ?_
        refine wpo_fieldAddr (o' := i * 8) X9 rfl rfl rfl ?_
        refine Xc rfl rfl rfl h282 ?_
        have k283 := (hOx.grown0 hg280)
        refine wpo_load1 (v := .int .i64 ((mAt ys i).t.kind)) X0 rfl ((Own.range Ym k283 (Xz (show i < ys.length by omega))) 0 _ rfl) rfl ?_
        refine Xc rfl rfl rfl h282 ?_
        refine wpo_eql (q := decide ((mAt ys i).t.kind = 1)) rfl rfl rfl rfl ?_
        refine wpo_pickt (v := .bool (decide ((mAt ys i).t.kind = 1))) rfl h282 rfl rfl ?_
        exact wpo_nil ⟨⟨e263, e264, e265, e266, e267, e268, e262, (congrArg Value.bool (by first | (simp only [h110, h111, h113, h220, h236, h237, h238, h239, h240, h241, h270, h282, b0, b1, b2, b3, b4, b5, b6, b7, b8, b9]; done) | simp [h110, h111, h113, h220, h236, h237, h238, h239, h240, h241, h270, h282]))⟩, hg280⟩
       ·
        iterate 6 refine Xe rfl rfl rfl h282 rfl ?_
        refine wpo_pickf (v := .bool false) rfl h282 rfl rfl ?_
        exact wpo_nil ⟨⟨e263, e264, e265, e266, e267, e268, e262, (congrArg Value.bool (by first | (simp only [h110, h111, h113, h220, h236, h237, h238, h239, h240, h241, h270, h282, b0, b1, b2, b3, b4, b5, b6, b7, b8, b9]; done) | simp [h110, h111, h113, h220, h236, h237, h238, h239, h240, h241, h270, h282]))⟩, hg280⟩
      ·
       rintro f284 w285 ⟨⟨e286, e287, e288, e289, e290, e291, e292, e293⟩, hg294⟩
       have hb295 := low0 hb260 hg294
       refine Xq e293 (fun h296 => ?_) (fun h296 => ?_)
       ·
        have h297 := Sv h296
        have h298 := Sw h296
        have hk4299 : (decide ((mAt ys i).t.kind = 4)) = false := decide_eq_false (fun h4 => absurd ((of_decide_eq_true h298).symm.trans h4) (by decide))
        have h300 := of_decide_eq_true h298
        refine Xl ?_
        refine wpo_move (v := .slice (some ⟨X251, 0, none⟩) ms117.length cap252) e291 rfl ?_
        refine wpo_move (v := .int .i64 (i : Int)) e292 rfl ?_
        refine wpo_move (v := .slice a2 m c2) e286 rfl ?_
        refine wpo_len (by kernel_rfl) rfl rfl ?_
        refine wpo_rem (c := (m : Int) % 99) rfl rfl (by omega) (by omega) (by omega) rfl rfl ?_
        refine wpo_indexAddr (o' := i * 8) Qp rfl rfl (by omega) (by omega) (by omega) rfl ?_
        refine wpo_fieldAddr (o' := i * 8 + 4) Q4 rfl rfl rfl ?_
        have k301 := (hOx.grown0 hg294)
        have hRO305 := (RowsH.low hRO hg294)
        refine wpo_store1O (g := MTh.cells) (j := 4) (z := (mAt ys i)) (z' := (⟨⟨(mAt ys i).t.kind, ((mAt ys i).t.lab), (mAt ys i).t.ve, (m : Int) % 99, (mAt ys i).t.slots, (mAt ys i).t.queue, (mAt ys i).t.to⟩, (mAt ys i).sa, (mAt ys i).sc, (mAt ys i).qa, (mAt ys i).qc⟩ : MTh)) (v := .int .i64 ((m : Int) % 99)) X0 rfl rfl rfl Ym k301 (Xz (show i < ys.length by omega)) (by omega) rfl rfl ?_
        intro w302 hO303 hg304
        have hb306 := low1 hb295 hg304 (by omega)
        have hRO307 : RowsH w.heap.size hx X251 w302 (ys.set i (⟨⟨(mAt ys i).t.kind, ((mAt ys i).t.lab), (mAt ys i).t.ve, (m : Int) % 99, (mAt ys i).t.slots, (mAt ys i).t.queue, (mAt ys i).t.to⟩, (mAt ys i).sa, (mAt ys i).sc, (mAt ys i).qa, (mAt ys i).qc⟩ : MTh)) := RowsH.set (RowsH.own hRO305 hg304 k301 (by decide) (by decide)) (show i < ys.length by omega) ⟨rfl, rfl, rfl⟩ ⟨rfl, rfl, rfl⟩
        refine wpo_nil ?_
        refine Xn ?_
        refine Xa ?_
        refine wpo_move (v := .slice (some ⟨B115, 0, none⟩) ms117.length cap116) e288 rfl ?_
        refine wpo_move (v := .int .i64 (i : Int)) e292 rfl ?_
        refine wpo_add (c := (i : Int) + 1) rfl rfl (by omega) (by omega) (by omega) rfl ?_
        have k313 := ((k269.grown0 hg294).gn hg304)
        refine wpo_loadn (vs := [.int .i64 l123.s, .int .i64 l123.v]) Yr e289 rfl (k313.rangeL 0 2 rfl) rfl ?_
        refine Xh (vs := [.slice (some ⟨B115, 0, none⟩) ms117.length cap116, .int .i64 ((i : Int) + 1), .agg #[.int .i64 l123.s, .int .i64 l123.v]]) Bj (Xb rfl (Xb rfl (Xb rfl Xg))) rfl (U0 ((i : Int) + 1) l123 (by omega) _ ms117 _ _ (TabLt.at (TabLt.low1 (TabLt.low0 hLm hg294) hg304 (by omega))) hTl126 (by omega)) ?_
        rintro _ w314 ⟨rfl, hg315⟩
        have hb316 := low0 hb306 hg315
        refine wpo_move (v := .bool (viewHigh (tabT ms117) ((i : Int) + 1) l123)) rfl rfl ?_
        refine Xc rfl rfl rfl h297 ?_
        refine wpo_move (v := .slice (some ⟨X251, 0, none⟩) ms117.length cap252) e291 rfl ?_
        refine Xc rfl rfl rfl h297 ?_
        refine wpo_move (v := .int .i64 (i : Int)) e292 rfl ?_
        refine Xc rfl rfl rfl h297 ?_
        refine wpo_indexAddr (o' := i * 8) Qp rfl rfl (by omega) (by omega) (by omega) rfl ?_
        refine Xc rfl rfl rfl h297 ?_
        refine wpo_fieldAddr (o' := i * 8) X9 rfl rfl rfl ?_
        refine Xc rfl rfl rfl h297 ?_
        have k317 := (hO303.grown0 hg315)
        refine wpo_load1 (v := .int .i64 ((mAt ys i).t.kind)) X0 rfl ((Own.range Ym k317 (Dh (Xz (show i < ys.length by omega)))) 0 _ rfl) rfl ?_
        refine Xc rfl rfl rfl h297 ?_
        refine wpo_eql (q := decide ((mAt ys i).t.kind = 4)) rfl rfl rfl rfl ?_
        refine wpo_pickt (v := .bool (decide ((mAt ys i).t.kind = 4))) rfl h297 rfl rfl ?_
        refine wpo_nil ?_
        refine Ya rfl hk4299 ?_
        refine Xk ?_
        refine Yy ?_
        refine Xn ?_
        refine Xl ?_
        refine wpo_move (v := .int .i64 (i : Int)) e292 rfl ?_
        refine wpo_add (c := (i : Int) + 1) rfl rfl (by omega) (by omega) (by omega) rfl ?_
        refine wpo_assign (v := .int .i64 ((i : Int) + 1)) rfl rfl ?_
        refine wpo_nil ?_
        refine Xn ?_
        have hRO318 := (RowsH.low hRO307 hg315)
        have k319 := (k313.grown0 hg315)
        exact ⟨ms117.length - (i + 1), by omega, (i + 1), (ys.set i (⟨⟨(mAt ys i).t.kind, ((mAt ys i).t.lab), (mAt ys i).t.ve, (m : Int) % 99, (mAt ys i).t.slots, (mAt ys i).t.queue, (mAt ys i).t.to⟩, (mAt ys i).sa, (mAt ys i).sc, (mAt ys i).qa, (mAt ys i).qc⟩ : MTh)), rfl, (by first | exact hyl | (simp only [List.length_set]; exact hyl)), (by omega), (TabLt.low0 (TabLt.low1 (TabLt.low0 hLm hg294) hg304 (by omega)) hg315), (TabLt.low0 (TabLt.low1 (TabLt.low0 hLu hg294) hg304 (by omega)) hg315), hRO318, k317, (by first | exact hTLy | exact Ke hTLy (by omega) rfl (.inl rfl) | exact Ke hTLy (by omega) rfl (.inr (by simp))), (HidT.set hHid h239 h241 hyl (by omega) h297 (Fi (Kt hHid.1 (i := i) (by omega)) h298 ⟨by omega, by omega⟩) rfl rfl rfl rfl rfl), rfl, e286, e287, e288, e289, e290, e291, hb316, k319⟩
       ·
        refine Xk ?_
        refine Xn ?_
        refine Xs (fun f' w' => (f' 1 = .slice a2 m c2 ∧ f' 4 = .bool false ∧ f' 5 = .slice (some ⟨B115, 0, none⟩) ms117.length cap116 ∧ f' 6 = .pointer (some ⟨B127, 0, none⟩) ∧ f' 7 = .slice a135 us134.length cap136 ∧ f' 8 = .slice (some ⟨X251, 0, none⟩) ms117.length cap252 ∧ f' 9 = .int .i64 (i : Int) ∧ f' 88 = .bool (viewHigh (tabT ms117) ((i : Int) + 1) l123 && (decide ((mAt ys i).t.kind = 4)))) ∧ w285.grownBy w' none) ?_ ?_
        ·
         refine wpo_move (v := .slice (some ⟨B115, 0, none⟩) ms117.length cap116) e288 rfl ?_
         refine wpo_move (v := .int .i64 (i : Int)) e292 rfl ?_
         refine wpo_add (c := (i : Int) + 1) rfl rfl (by omega) (by omega) (by omega) rfl ?_
         have k329 := (k269.grown0 hg294)
         refine wpo_loadn (vs := [.int .i64 l123.s, .int .i64 l123.v]) Yr e289 rfl (k329.rangeL 0 2 rfl) rfl ?_
         refine Xh (vs := [.slice (some ⟨B115, 0, none⟩) ms117.length cap116, .int .i64 ((i : Int) + 1), .agg #[.int .i64 l123.s, .int .i64 l123.v]]) Bj (Xb rfl (Xb rfl (Xb rfl Xg))) rfl (U0 ((i : Int) + 1) l123 (by omega) _ ms117 _ _ (TabLt.at (TabLt.low0 hLm hg294)) hTl126 (by omega)) ?_
         rintro _ w330 ⟨rfl, hg331⟩
         have hb332 := low0 hb295 hg331
         refine wpo_move (v := .bool (viewHigh (tabT ms117) ((i : Int) + 1) l123)) rfl rfl ?_
         rcases Xy (viewHigh (tabT ms117) ((i : Int) + 1) l123) with h333 | h333
         ·
          refine Xc rfl rfl rfl h333 ?_
          refine wpo_move (v := .slice (some ⟨X251, 0, none⟩) ms117.length cap252) e291 rfl ?_
          refine Xc rfl rfl rfl h333 ?_
          refine wpo_move (v := .int .i64 (i : Int)) e292 rfl ?_
          refine Xc rfl rfl rfl h333 ?_
          refine wpo_indexAddr (o' := i * 8) Qp rfl rfl (by omega) (by omega) (by omega) rfl ?_
          refine Xc rfl rfl rfl h333 ?_
          refine wpo_fieldAddr (o' := i * 8) X9 rfl rfl rfl ?_
          refine Xc rfl rfl rfl h333 ?_
          have k334 := ((hOx.grown0 hg294).grown0 hg331)
          refine wpo_load1 (v := .int .i64 ((mAt ys i).t.kind)) X0 rfl ((Own.range Ym k334 (Xz (show i < ys.length by omega))) 0 _ rfl) rfl ?_
          refine Xc rfl rfl rfl h333 ?_
          refine wpo_eql (q := decide ((mAt ys i).t.kind = 4)) rfl rfl rfl rfl ?_
          refine wpo_pickt (v := .bool (decide ((mAt ys i).t.kind = 4))) rfl h333 rfl rfl ?_
          exact wpo_nil ⟨⟨e286, e287, e288, e289, e290, e291, e292, (congrArg Value.bool (by first | (simp only [h110, h111, h113, h220, h236, h237, h238, h239, h240, h241, h270, h296, h333, b0, b1, b2, b3, b4, b5, b6, b7, b8, b9]; done) | simp [h110, h111, h113, h220, h236, h237, h238, h239, h240, h241, h270, h296, h333]))⟩, hg331⟩
         ·
          iterate 6 refine Xe rfl rfl rfl h333 rfl ?_
          refine wpo_pickf (v := .bool false) rfl h333 rfl rfl ?_
          exact wpo_nil ⟨⟨e286, e287, e288, e289, e290, e291, e292, (congrArg Value.bool (by first | (simp only [h110, h111, h113, h220, h236, h237, h238, h239, h240, h241, h270, h296, h333, b0, b1, b2, b3, b4, b5, b6, b7, b8, b9]; done) | simp [h110, h111, h113, h220, h236, h237, h238, h239, h240, h241, h270, h296, h333]))⟩, hg331⟩
        ·
         rintro f335 w336 ⟨⟨e337, e338, e339, e340, e341, e342, e343, e344⟩, hg345⟩
         have hb346 := low0 hb295 hg345
         refine Xq e344 (fun h347 => ?_) (fun h347 => ?_)
         ·
          have h348 := Sv h347
          have h349 := Sw h347
          have h350 := of_decide_eq_true h349
          refine Xl ?_
          refine wpo_move (v := .slice (some ⟨X251, 0, none⟩) ms117.length cap252) e342 rfl ?_
          refine wpo_move (v := .int .i64 (i : Int)) e343 rfl ?_
          refine wpo_move (v := .slice a2 m c2) e337 rfl ?_
          refine wpo_len (by kernel_rfl) rfl rfl ?_
          refine wpo_rem (c := (m : Int) % 9) rfl rfl (by omega) (by omega) (by omega) rfl rfl ?_
          refine wpo_buildSlice (ps := [(0, .int .i64 ((m : Int) % 9)), (1, .int .i64 4)]) (e := 3) (cs := (([(m : Int) % 9, 4] : List Int).flatMap icell).toArray) (Xm rfl (Xm rfl Xw)) (fun _ => by kernel_rfl) rfl ?_
          intro B351 w352 hN353
          have hlB351 := X1 hN353 hb346
          have k354 := ((k269.grown0 hg294).grown0 hg345)
          have lt_B127_B351 := Xo hN353 (k354).lt
          have k355 := ((hOx.grown0 hg294).grown0 hg345)
          have lt_X251_B351 := Xo hN353 (k355).lt
          have hb356 := low0 hb346 hN353.grw
          refine wpo_indexAddr (o' := i * 8) Qp rfl rfl (by omega) (by omega) (by omega) rfl ?_
          refine wpo_fieldAddr (o' := i * 8 + 6) Qk rfl rfl rfl ?_
          have k357 := (k355.grown0 hN353.grw)
          have hRO361 := (RowsH.low (RowsH.low (RowsH.low hRO hg294) hg345) hN353.grw)
          refine wpo_store1O (g := MTh.cells) (j := 6) (z := (mAt ys i)) (z' := (⟨⟨(mAt ys i).t.kind, ((mAt ys i).t.lab), (mAt ys i).t.ve, (mAt ys i).t.num, (mAt ys i).t.slots, ([(m : Int) % 9, 4] : List Int), (mAt ys i).t.to⟩, (mAt ys i).sa, (mAt ys i).sc, some ⟨B351, 0, none⟩, 2⟩ : MTh)) (v := .slice (some ⟨B351, 0, none⟩) 2 2) Jo rfl rfl rfl Ym k357 (Xz (show i < ys.length by omega)) (by omega) rfl rfl ?_
          intro w358 hO359 hg360
          have hb362 := low1 hb356 hg360 (by omega)
          have k364 := (hN353.blk.gn hg360)
          have hRO363 : RowsH w.heap.size hx X251 w358 (ys.set i (⟨⟨(mAt ys i).t.kind, ((mAt ys i).t.lab), (mAt ys i).t.ve, (mAt ys i).t.num, (mAt ys i).t.slots, ([(m : Int) % 9, 4] : List Int), (mAt ys i).t.to⟩, (mAt ys i).sa, (mAt ys i).sc, some ⟨B351, 0, none⟩, 2⟩ : MTh)) := RowsH.setq (RowsH.own hRO361 hg360 k357 (by decide) (by decide)) (show i < ys.length by omega) (OwnN.mono (OwnN.of (Own.rows Yb k364 (by simp)) hlB351) (Nat.le_refl _)) ⟨rfl, rfl, rfl⟩
          refine wpo_nil ?_
          refine Yy ?_
          refine Xn ?_
          refine Xl ?_
          refine wpo_move (v := .int .i64 (i : Int)) e343 rfl ?_
          refine wpo_add (c := (i : Int) + 1) rfl rfl (by omega) (by omega) (by omega) rfl ?_
          refine wpo_assign (v := .int .i64 ((i : Int) + 1)) rfl rfl ?_
          refine wpo_nil ?_
          refine Xn ?_
          have k365 := ((k354.grown0 hN353.grw).gn hg360)
          exact ⟨ms117.length - (i + 1), by omega, (i + 1), (ys.set i (⟨⟨(mAt ys i).t.kind, ((mAt ys i).t.lab), (mAt ys i).t.ve, (mAt ys i).t.num, (mAt ys i).t.slots, ([(m : Int) % 9, 4] : List Int), (mAt ys i).t.to⟩, (mAt ys i).sa, (mAt ys i).sc, some ⟨B351, 0, none⟩, 2⟩ : MTh)), rfl, (by first | exact hyl | (simp only [List.length_set]; exact hyl)), (by omega), (TabLt.low1 (TabLt.low0 (TabLt.low0 (TabLt.low0 hLm hg294) hg345) hN353.grw) hg360 (by omega)), (TabLt.low1 (TabLt.low0 (TabLt.low0 (TabLt.low0 hLu hg294) hg345) hN353.grw) hg360 (by omega)), hRO363, hO359, (by first | exact hTLy | exact Ke hTLy (by omega) rfl (.inl rfl) | exact Ke hTLy (by omega) rfl (.inr (by simp))), (HidT.set hHid h239 h241 hyl (by omega) h348 (Fj (Kt hHid.1 (i := i) (by omega)) h349 ⟨by omega, by omega⟩) rfl rfl rfl rfl rfl), rfl, e337, e338, e339, e340, e341, e342, hb362, k365⟩
         ·
          refine Xk ?_
          refine Yy ?_
          refine Xn ?_
          refine Xl ?_
          refine wpo_move (v := .int .i64 (i : Int)) e343 rfl ?_
          refine wpo_add (c := (i : Int) + 1) rfl rfl (by omega) (by omega) (by omega) rfl ?_
          refine wpo_assign (v := .int .i64 ((i : Int) + 1)) rfl rfl ?_
          refine wpo_nil ?_
          refine Xn ?_
          have hRO366 := (RowsH.low (RowsH.low hRO hg294) hg345)
          have k367 := ((hOx.grown0 hg294).grown0 hg345)
          have k368 := ((k269.grown0 hg294).grown0 hg345)
          exact ⟨ms117.length - (i + 1), by omega, (i + 1), ys, rfl, (by first | exact hyl | (simp only [List.length_set]; exact hyl)), (by omega), (TabLt.low0 (TabLt.low0 hLm hg294) hg345), (TabLt.low0 (TabLt.low0 hLu hg294) hg345), hRO366, k367, (by first | exact hTLy | exact Ke hTLy (by omega) rfl (.inl rfl) | exact Ke hTLy (by omega) rfl (.inr (by simp))), hHid, rfl, e337, e338, e339, e340, e341, e342, hb346, k368⟩
     ·
      have h369 := of_decide_eq_false h270
      refine Yj ?_
      refine Yt ?_
      refine Yt ?_
      refine Jf ?_
      refine Xn ?_
      refine Xa ?_
      refine wpo_move (v := .slice (some ⟨X251, 0, none⟩) ms117.length cap252) e268 rfl ?_
      refine wpo_loadn (vs := [.int .i64 l123.s, .int .i64 l123.v]) Yr e266 rfl (k269.rangeL 0 2 rfl) rfl ?_
      refine Xh (vs := [.slice (some ⟨X251, 0, none⟩) ms117.length cap252, .agg #[.int .i64 l123.s, .int .i64 l123.v]]) S0 (Xb rfl (Xb rfl Xg)) rfl (Rr hyl (ViewRule.rule _ ys _ _ l123 (Nat.le_trans hKB hb260.size) (RowsH.tab hRO hOx) hTLy (by omega))) ?_
      rintro _ w397 ⟨us390, a391, cap392, rfl, he393, hT394, hnc395, hg396⟩
      have hb400 := low0 hb260 hg396
      have hTl398 := Js he393 hTLy
      have hll399 := Kg he393
      refine wpo_move (v := .slice a135 us134.length cap136) e267 rfl ?_
      refine Xh (vs := [.slice a391 us390.length cap392, .slice a135 us134.length cap136]) Bi (Xb rfl (Xb rfl Xg)) rfl (W9 _ us390 us134 _ _ _ _ hT394 (TabLt.at (TabLt.low0 hLu hg396)) hTl398 hTl142 (by omega) (by omega)) ?_
      rintro _ w401 ⟨rfl, hg402⟩
      have hb403 := low0 hb400 hg402
      refine wpo_move (v := .bool true) (congrArg Value.bool (decide_eq_true (he393.trans (hHid.2.trans he137.symm)))) rfl ?_
      refine Xc rfl rfl rfl rfl ?_
      refine wpo_move (v := .slice (some ⟨X251, 0, none⟩) ms117.length cap252) e268 rfl ?_
      refine Xc rfl rfl rfl rfl ?_
      refine wpo_move (v := .slice (some ⟨B115, 0, none⟩) ms117.length cap116) e265 rfl ?_
      refine Xc rfl rfl rfl rfl ?_
      have k404 := ((k269.grown0 hg396).grown0 hg402)
      refine wpo_loadn (vs := [.int .i64 l123.s, .int .i64 l123.v]) Yr e266 rfl (k404.rangeL 0 2 rfl) rfl ?_
      refine Xc rfl rfl rfl rfl ?_
      have hRO405 := (RowsH.low (RowsH.low hRO hg396) hg402)
      have k406 := ((hOx.grown0 hg396).grown0 hg402)
      refine Xh (vs := [.slice (some ⟨X251, 0, none⟩) ms117.length cap252, .slice (some ⟨B115, 0, none⟩) ms117.length cap116, .agg #[.int .i64 l123.s, .int .i64 l123.v]]) Ip (Xb rfl (Xb rfl (Xb rfl Xg))) rfl (N1 hyl (Rj l123 _ ys ms117 _ _ _ _ (RowsH.tab hRO405 k406) (TabLt.at (TabLt.low0 (TabLt.low0 hLm hg396) hg402)) hTLy hTl126 (by omega) (by omega) (Nat.le_trans hKB hb403.size))) ?_
      rintro _ w407 ⟨rfl, hg408⟩
      have hb409 := low0 hb403 hg408
      refine wpo_pickt (v := .bool true) rfl rfl (congrArg Value.bool (Bn hHid h239 h241 hyl)) rfl ?_
      refine wpo_assign (v := .bool true) rfl rfl ?_
      refine wpo_nil ?_
      refine Xj ?_
      refine ⟨.bool true, res1 rfl rfl, ?_, hb409⟩
      rfl
end Go.Dw.J
end
section
namespace Go.Dw
open Go.ChangeShapes Go.WideShapes Go.ChangeAt Go.RowKit Go.Deep
section
variable {H : Type} {enc : TypeId × Value → H} {P : Program} {w : World} {base : Nat} {spare : Nat → Bool} {held : Bool} {fuel : Nat} {cs : List Value} {x : DataW H × List MemPlace}
theorem Se {α : Type} {g : α → List Value} {ok : α → Prop} {t e : TypeId} {sz : Nat} (ht : P.underlying t = some (.slice e)) (hc : P.cellsOf e = sz) (hz : 0 < sz) (hg : Wide g sz) (hrd : ∀ n cs x, DataW.trod enc P w base spare held n e cs = some x → ∃ a, cs = g a ∧ ok a)
    (h : DataW.trod enc P w base spare held fuel t cs = some x) :
    ∃ (a : Option Addr) (xs : List α) (c : Nat), cs = [.slice a xs.length c] ∧ xs.length ≤ c ∧ c ≤ maxLen ∧ SlAt w a sz (xs.map g) ∧ (∀ y ∈ xs, ok y) ∧ (a = none → c = 0) := by
  rcases open_slice ht h with ⟨rfl, _⟩ | ⟨a, len, cap, m, n, D, Pl, rfl, _, hl, hm, hmm, _, hi⟩
  · exact ⟨none, [], 0, rfl, Nat.le_refl _, Nat.zero_le _, fun k x hk => by simp at hk, fun y hy => by simp at hy, fun _ => rfl⟩
  · have hlm : len ≤ m := by
      rw [hmm]; split <;> omega
    have hex : ∀ i : Fin len, ∃ y : α, ok y ∧ ∀ j, j < sz → w.cell? (a.add (i.val * sz + j)) = (g y)[j]? := fun i => by
      obtain ⟨cs', hcs, htr⟩ := hi i.val (by omega)
      obtain ⟨y, rfl, hy⟩ := hrd _ _ _ htr
      rw [hc] at hcs
      obtain ⟨_, _, hat⟩ := World.cells?_some hcs
      refine ⟨y, hy, fun j hj => ?_⟩
      rw [← hat j hj, add_add]
    refine ⟨some a, List.ofFn fun i : Fin len => Classical.choose (hex i), cap, by simp, by simpa using hl, hm, fun k x hk => ?_, fun y hy => ?_, fun hn => by cases hn⟩
    · rw [List.getElem?_map] at hk
      cases hy : (List.ofFn fun i : Fin len => Classical.choose (hex i))[k]? with
      | none => rw [hy] at hk; simp at hk
      | some y =>
        rw [hy] at hk
        obtain rfl : g y = x := by simpa using hk
        have hkl : k < len := by
          have := (List.getElem?_eq_some_iff.1 hy).1
          simpa using this
        have hye : Classical.choose (hex ⟨k, hkl⟩) = y := by
          rw [List.getElem?_ofFn] at hy
          simpa [hkl] using hy
        have hat := (Classical.choose_spec (hex ⟨k, hkl⟩)).2
        rw [hye] at hat
        obtain ⟨b, o, spot⟩ := a
        have hspot : spot = none := by
          obtain ⟨y0, _, hy0⟩ := hex ⟨0, by omega⟩
          have h0 := hy0 0 hz
          obtain ⟨v, hv⟩ : ∃ v, (g y0)[0]? = some v := ⟨_, List.getElem?_eq_getElem (by rw [hg]; exact hz)⟩
          rw [hv] at h0
          have := World.cell?_spot h0
          simpa [Addr.add] using this
        subst hspot
        refine ⟨b, o, rfl, fun j v hj => ?_⟩
        have hjl : j < sz := by rw [← hg y]; exact (List.getElem?_eq_some_iff.1 hj).1
        rw [← hj, ← hat j hjl]
        simp only [Addr.add]
        split
        · rename_i he
          rw [show o + k * sz + j = o by omega]
        · rw [show o + (k * sz + j) = o + k * sz + j by omega]
    · obtain ⟨i, rfl⟩ := List.mem_ofFn.1 hy
      exact (Classical.choose_spec (hex i)).1
theorem S6 {α : Type} {g : α → List Value} {ok : α → Prop} {r : Reach} {b0 : Nat} {t e sz : Nat} {v : Value} {d : DataW H} {p : List MemPlace} (hs : P.underlying t = some (.slice e)) (hc : P.cellsOf e = sz) (hz : 0 < sz) (hg : Wide g sz)
    (hrd : ∀ n cs x, DataW.trod enc P w base spare held n e cs = some x → ∃ a, cs = g a ∧ ok a) (hv : Value.okWide P w r b0 t v) (h : DataW.Trod enc P w base spare held t v d p) :
    ∃ (a : Option Addr) (xs : List α) (c : Nat), v = .slice a xs.length c ∧ xs.length ≤ 9223372036854775807 ∧ xs.length ≤ c ∧ SlAt w a sz (xs.map g) ∧ ∀ y ∈ xs, ok y := by
  obtain ⟨a, len, cap, rfl⟩ := okWide_slice hs hv
  obtain ⟨fuel, hf⟩ := h
  obtain ⟨a', xs, c, h1, h2, h3, h4, h5, h7⟩ := Se hs hc hz hg hrd hf
  have h6 : Value.slice a len cap = .slice a' xs.length c := by simpa [Value.cells] using h1
  refine ⟨a', xs, c, h6, ?_, h2, h4, h5⟩
  have : maxLen = 9223372036854775807 := by decide
  omega
theorem Ch {t : TypeId} (ht : P.underlying t = some (.int .u8)) (h : DataW.trod enc P w base spare held fuel t cs = some x) : ∃ n : Int, cs = bcell n ∧ (0 ≤ n ∧ n ≤ 255) := by
  obtain ⟨n, hn, _, hw⟩ := DataW.trod_int ht h
  refine ⟨n, hn, ?_⟩
  have h2 := Bool.and_eq_true_iff.1 hw
  have h3 := of_decide_eq_true h2.1
  have h4 := of_decide_eq_true h2.2
  exact ⟨h3, h4⟩
def Lab.wf (l : Lab) : Prop := (Lit.int .i64 l.s).wf = true ∧ (Lit.int .i64 l.v).wf = true
def Cl.wf (q : Cl) : Prop := (Lit.int .i64 q.kind).wf = true ∧ (Lit.int .i64 q.run).wf = true ∧ (Lit.int .i64 q.a).wf = true ∧ (Lit.int .i64 q.b).wf = true ∧ (Lit.int .i64 q.n).wf = true
theorem Ux (hl : laidOutB P = true) {W W' : World} (hb : Below W.heap.size W W') : ∀ (ts : List TypeId) (vs : List Value) (ds : List (DataW H)) (ps : List MemPlace), ts.all (fun t => P.readableRec t && decide (t < P.types.size)) = true →
    DataW.TrodAll enc P W 0 (fun _ => true) true ts vs ds ps → (∀ y ∈ ps, y.block < W.heap.size) → DataW.TrodAll enc P W' 0 (fun b => decide (b < W.heap.size)) true ts vs ds ps
  | [], _, _, _, _, h, _ => by
    obtain ⟨rfl, rfl, rfl⟩ := trodAll_nil h
    exact rfl
  | t :: ts, _, _, _, ht, h, hlt => by
    obtain ⟨v, vs, d, ds, p, q, rfl, rfl, rfl, h1, h2⟩ := trodAll_cons h
    simp only [List.all_cons, Bool.and_eq_true, decide_eq_true_eq] at ht
    exact ⟨p, q, Below.trod hl ht.1.1 ht.1.2 h1 hb fun y hy => hlt y (List.mem_append_left _ hy), Ux hl hb ts vs ds q ht.2 h2 fun y hy => hlt y (List.mem_append_right _ hy), rfl⟩
theorem T0 {f : Func} {s : ChangeSpec} {apart handsOn : Bool} {W W' : World} {args : Array Value} {ds gs : List (DataW H)} {before pa : List MemPlace} {tb : TypeId} (hl : laidOutB P = true)
    (hr : f.params.toList.all (fun t => P.readableRec t && decide (t < P.types.size)) = true) (hW : DataW.Whole enc P f.params.toList s.vars apart W args.toList ds gs before)
    (hA : DataW.TrodAll enc P W 0 (fun _ => true) true f.params.toList args.toList ds pa) (hlt : ∀ y ∈ pa, y.block < W.heap.size) (hs : s.fn H (ds ++ gs) = { results := [.lit (.bool true)], args := ds }) (hv : s.vars = [])
    (hres : f.resultTypes = #[tb]) (htb : P.underlying tb = some .bool) (hb : Below W.heap.size W W') : s.post enc P f apart true handsOn false W args (.bool true) W' := by
  refine ⟨ds, gs, before, [], pa, [], hW, ?_, ?_, ?_, hb.frame _, fun h => by cases h⟩
  · rw [hs, hres]
    exact trodAll_mk1 (shut_bool htb _)
  · rw [hs]
    exact Ux hl hb _ _ _ _ hr hA hlt
  · rw [hs, hv]
    rfl
end
end Go.Dw
end
section
namespace Go.Dw.J
open Go.RowKit Go.Dw Go.Proofs
open Go.Conc (G solo)
set_option linter.unusedSectionVars false
set_option linter.unusedSimpArgs false
set_option linter.unusedVariables false
theorem P4 {o : Obj} (h : seeO o ≠ pz) : seeO o = o := by cases o <;> first | rfl | exact absurd rfl h
theorem P2 {W : World} : @Keep ⟨W.heap.size, W⟩ (seeAll W) W := by
  refine ⟨Nat.le_refl _, fun b hb => ?_⟩
  have hb' : b < W.heap.size := hb
  have e : W.heap[b]? = some W.heap[b] := Array.getElem?_eq_getElem hb'
  by_cases h : seeO W.heap[b] = pz
  · refine .inr ⟨fun hs => hs.2 ?_, rfl⟩
    rw [Jz, e, Option.map_some, h]
  · refine .inl ⟨⟨by simpa [seeAll] using hb', fun e2 => h ?_⟩, ?_⟩
    · rw [Jz, e, Option.map_some] at e2
      exact Option.some.inj e2
    · rw [Jz, e, Option.map_some, P4 h]
theorem seeAll_sl {W : World} {a : Option Addr} {sz : Nat} {xs : List (List Value)} (h : SlAt W a sz xs) : SlAt (seeAll W) a sz xs := fun k x hk => by
  obtain ⟨b, o, ha, hr⟩ := h k x hk
  exact ⟨b, o, ha, fun j v hj => P1 (hr j v hj)⟩
theorem law_good {k : FuncId} {fn : Func} {c : Code} {n : Nat} {args : Array Value} {W : World} (hf : Try.prog.funcs[k]? = some fn) (hb : fn.body = some c) (hn : fn.ntmps = n) (hs : Nat.ble args.size n = true) (hin : Try.prog.inits.idxOf? k = none)
    (law : ∀ [Comp] [ViewRule], ViewRule.base ≤ (seeAll W).heap.size → Wpf Try.prog n (endQ Try.prog fn (fun v w' => v = .bool true ∧ (seeAll W).grownBy w' none)) c (f0 args) (seeAll W)) :
    Runs Try.prog (fun v W' => v = .bool true ∧ Below W.heap.size W { W' with tape := W.tape }) (solo (G (Frame.enter Try.prog k args .normal) []) W) #[] := by
  letI : KeepD := ⟨W.heap.size, W⟩
  have hsz : (seeAll W).heap.size = W.heap.size := by simp [seeAll]
  refine Si P2 (Db OKV okv hf hb hn hs hin (R := fun v w' => v = .bool true ∧ (seeAll W).grownBy w' none) (fun v A' w ⟨hv, hg⟩ hsee hk => ⟨hv, ?_⟩) (@law (comp0 OKV) viewRule (Nat.le_of_eq hsz.symm)))
  refine ⟨hsee.os.symm.trans hg.os, rfl, hsee.output.symm.trans hg.output, hk.1, fun b hb' => ?_⟩
  show w.heap[b]? = W.heap[b]?
  have e : W.heap[b]? = some W.heap[b] := Array.getElem?_eq_getElem hb'
  rcases hk.2 b hb' with ⟨h1, h2⟩ | ⟨_, h2⟩
  · have h3 := hg.block b (by rw [hsz]; exact hb') (by simp)
    rw [Jz, e, Option.map_some] at h3
    have h4 : seeO W.heap[b] ≠ pz := fun h => h1.2 (by rw [h3, h])
    rw [← h2, h3, P4 h4, e]
  · exact h2
end Go.Dw.J
namespace Go.Dw
theorem Tz {H : Type} {enc : TypeId × Value → H} {P : Program} {f : Func} {s : ChangeSpec} {apart fresh handsOn : Bool} {W W' : World} {args : Array Value} {v : Value} {tp : Tape} (h : s.post enc P f apart fresh handsOn false W args v { W' with tape := tp }) : s.post enc P f apart fresh handsOn false W args v W' := by
  obtain ⟨ds, gs, before, pr, pa, pv, h1, h2, h3, h4, h5, h6⟩ := h
  exact ⟨ds, gs, before, pr, pa, pv, h1, DataW.TrodAll.of_heap (w' := W') (by rfl) h2, DataW.TrodAll.of_heap (w' := W') (by rfl) h3, DataW.TrodVars.of_heap (w' := W') (by rfl) h4, h5, fun h => by cases h⟩
end Go.Dw
end
