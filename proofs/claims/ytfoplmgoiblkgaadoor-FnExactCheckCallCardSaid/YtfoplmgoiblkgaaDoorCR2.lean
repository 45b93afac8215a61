/- Laws and walks: my templates, and what a program of mine (gen.py) printed out of the functions; only what the row reaches. -/
import Derived.Test.YtfoplmgoiblkgaaDoorCR1
section
namespace Go.Proofs.YtfoplmgoiblkgaaDoor
open Go.RowKit Go.Dw
set_option maxRecDepth 100000
set_option maxHeartbeats 4000000
set_option linter.unusedSimpArgs false
set_option linter.unusedVariables false
theorem L8 (m : MTh) (w : World) (hs : SlAt w m.sa 5 (m.t.slots.map Rt.cells)) (hq : SlAt w m.qa 1 (m.t.queue.map icell)) (hsl : m.t.slots.length ≤ 9223372036854775806) (hql : m.t.queue.length ≤ 9223372036854775806) : CallsR Tryd.prog 84 #[.agg #[.int .i64 m.t.kind, .int .i64 m.t.lab.s, .int .i64 m.t.lab.v, .int .i64 m.t.ve, .int .i64 m.t.num, .slice m.sa m.t.slots.length m.sc, .slice m.qa m.t.queue.length m.qc, .int .i64 m.t.to]] w (fun v w' => v = .bool (slotsOk m.t) ∧ w.grownBy w' none) := by
 refine X0 (n := 32) Tryd.func84 rfl Tryd.ntmps84 rfl ?_
 have hb0 := World.grownBy.refl w none
 refine Xb ?_
 refine Yu (v := .agg #[.int .i64 m.t.kind, .int .i64 m.t.lab.s, .int .i64 m.t.lab.v, .int .i64 m.t.ve, .int .i64 m.t.num, .slice m.sa m.t.slots.length m.sc, .slice m.qa m.t.queue.length m.qc, .int .i64 m.t.to]) (cs := #[.int .i64 m.t.kind, .int .i64 m.t.lab.s, .int .i64 m.t.lab.v, .int .i64 m.t.ve, .int .i64 m.t.num, .slice m.sa m.t.slots.length m.sc, .slice m.qa m.t.queue.length m.qc, .int .i64 m.t.to]) rfl rfl rfl ?_
 intro B101 w102 hN103
 have hlB101 := Yf hN103 hb0
 have hb104 := low0 hb0 hN103.grw
 refine Xh (v := .bool false) rfl rfl ?_
 refine Xa ?_
 refine Xt ?_
 refine X2 (fun f' w' => (f' 1 = .pointer (some ⟨B101, 0, none⟩) ∧ f' 2 = .bool false ∧ f' 12 = .bool ((!(decide (m.t.kind = 2))) && (!(decide (m.t.kind = 3))))) ∧ w102 = w') ?_ ?_
 ·
  refine Xd (o' := 0) Yt rfl rfl rfl ?_
  refine Xi (v := .int .i64 m.t.kind) X3 rfl (hN103.blk.cell rfl) rfl ?_
  refine Y7 (q := !(decide (m.t.kind = 2))) rfl rfl rfl rfl ?_
  refine Xc (v := .bool (!(decide (m.t.kind = 2)))) rfl rfl ?_
  rcases Yb (!(decide (m.t.kind = 2))) with h105 | h105
  ·
   have h106 := Zn h105
   have h107 := of_decide_eq_false h106
   refine Xe rfl rfl rfl h105 ?_
   refine Xd (o' := 0) Yt rfl rfl rfl ?_
   refine Xe rfl rfl rfl h105 ?_
   refine Xi (v := .int .i64 m.t.kind) X3 rfl (hN103.blk.cell rfl) rfl ?_
   refine Xe rfl rfl rfl h105 ?_
   refine Y7 (q := !(decide (m.t.kind = 3))) rfl rfl rfl rfl ?_
   refine Xr (v := .bool (!(decide (m.t.kind = 3)))) rfl h105 rfl rfl ?_
   exact Xa ⟨⟨rfl, rfl, (congrArg Value.bool (by first | (simp only [h105, h106, b0, b1, b2, b3, b4, b5, b6, b7, b8, b9]; done) | simp [h105, h106]))⟩, rfl⟩
  ·
   have h108 := Zh h105
   have h109 := of_decide_eq_true h108
   iterate 3 refine Xk rfl rfl rfl h105 rfl ?_
   refine Xl (v := .bool false) rfl h105 rfl rfl ?_
   exact Xa ⟨⟨rfl, rfl, (congrArg Value.bool (by first | (simp only [h105, h108, b0, b1, b2, b3, b4, b5, b6, b7, b8, b9]; done) | simp [h105, h108]))⟩, rfl⟩
 ·
  rintro f110 w111 ⟨⟨e112, e113, e114⟩, rfl⟩
  refine Xw e114 (fun h115 => ?_) (fun h115 => ?_)
  ·
   have h116 := Lk h115
   have h117 := Zn h116
   have h118 := of_decide_eq_false h117
   have h119 := Li h115
   have h120 := Zn h119
   have h121 := of_decide_eq_false h120
   refine Xb ?_
   refine Xd (o' := 5) Zt e112 rfl rfl ?_
   refine Xi (v := .slice m.sa m.t.slots.length m.sc) Qq rfl (hN103.blk.cell rfl) rfl ?_
   refine Ym (by kernel_rfl) rfl rfl ?_
   refine X4 (q := decide ((m.t.slots.length : Int) = 0)) rfl rfl rfl rfl ?_
   refine Xh (v := .bool (decide ((m.t.slots.length : Int) = 0))) rfl rfl ?_
   refine Xa ?_
   refine Xs ?_
   refine Yi ?_
   refine ⟨.bool (decide ((m.t.slots.length : Int) = 0)), Yq rfl rfl, ?_, hb104⟩
   rw [Nm h115]
  ·
   refine Xy ?_
   refine Xv ?_
   refine Xt ?_
   refine Xb ?_
   refine Xd (o' := 5) Zt e112 rfl rfl ?_
   refine Xi (v := .slice m.sa m.t.slots.length m.sc) Qq rfl (hN103.blk.cell rfl) rfl ?_
   refine Ym (by kernel_rfl) rfl rfl ?_
   refine Y7 (q := !(decide ((m.t.slots.length : Int) = 4))) rfl rfl rfl rfl ?_
   refine Xa ?_
   refine Xw rfl (fun h122 => ?_) (fun h122 => ?_)
   ·
    have h123 := Zn h122
    have h124 := of_decide_eq_false h123
    refine Xb ?_
    refine Xh (v := .bool false) rfl rfl ?_
    refine Xa ?_
    refine Xs ?_
    refine Yi ?_
    refine ⟨.bool false, Yq rfl rfl, ?_, hb104⟩
    rw [Vv h115]
    rw [decide_eq_false (by omega)]; rfl
   ·
    have h125 := Zh h122
    have h126 := of_decide_eq_true h125
    refine Xy ?_
    refine Xv ?_
    refine Xt ?_
    refine Xb ?_
    refine Xd (o' := 5) Zt e112 rfl rfl ?_
    refine Xi (v := .slice m.sa m.t.slots.length m.sc) Qq rfl (hN103.blk.cell rfl) rfl ?_
    obtain ⟨b127, q128, ha129, hr130⟩ := SlAt.all Zw (by omega) (SlAt.low hs hb104) (by omega)
    refine Ry Rb rfl ha129 (by omega) rfl ?_
    refine Xu (vs := m.t.slots.flatMap Rt.cells) Tk rfl (by rw [Qe Zw]; omega) hr130 rfl ?_
    refine Xc (v := .int .i64 0) rfl rfl ?_
    refine Xa ?_
    refine Ye ?_
    refine Zd (fun mm f' w' => ∃ (k : Nat), mm = m.t.slots.length - k ∧ k ≤ m.t.slots.length ∧ ((m.t.slots.take k).all rightOk) = true ∧ f' 25 = .int .i64 (k : Int) ∧ f' 24 = .agg (m.t.slots.flatMap Rt.cells).toArray ∧ w.grownBy w' none) (m.t.slots.length - 0) ⟨0, rfl, (Nat.zero_le _), rfl, rfl, rfl, hb104⟩ ?_
    rintro mm f131 w132 ⟨k, hm134, hk, ha, e135, e136, hb133⟩
    refine Xb ?_
    refine Y4 (q := decide ((k : Int) < 4)) e135 rfl rfl rfl ?_
    refine Xa ?_
    refine Xt ?_
    refine Xw rfl (fun h137 => ?_) (fun h137 => ?_)
    ·
     have h138 := of_decide_eq_true h137
     refine Xy ?_
     refine Xv ?_
     refine Xt ?_
     refine Ye ?_
     refine Xb ?_
     obtain ⟨x139, hx140⟩ := Zf (l := m.t.slots) (i := k) (by omega)
     refine W0 (g := Rt.cells) (z := x139) Rb Y8 Zw e136 e135 (by omega) (by omega) hx140 rfl ?_
     refine Yj (cs := #[.int .i64 0, .int .i64 0, .bool false, .bool false, .bool false]) J3 rfl rfl ?_
     intro B141 w142 hN143
     have hlB141 := Yf hN143 hb133
     have hb144 := low0 hb133 hN143.grw
     refine Xz (vs := [.int .i64 x139.th, .int .i64 x139.ve, .bool x139.rd, .bool x139.wr, .bool x139.wk]) (cs' := #[.int .i64 x139.th, .int .i64 x139.ve, .bool x139.rd, .bool x139.wr, .bool x139.wk]) Y8 rfl rfl rfl (by simp [Value.oneCell']) hN143.blk (Nat.le_of_ble_eq_true rfl) rfl ?_
     intro w145 hS146
     have hb147 := low1 hb144 hS146.grw (by omega)
     refine Xa ?_
     refine Xb ?_
     refine Xu (vs := [.int .i64 x139.th, .int .i64 x139.ve, .bool x139.rd, .bool x139.wr, .bool x139.wk]) Y8 rfl rfl (hS146.blk.rangeL 0 5 rfl) rfl ?_
     refine Xn (vs := [.agg #[.int .i64 x139.th, .int .i64 x139.ve, .bool x139.rd, .bool x139.wr, .bool x139.wk]]) S1 (Xg rfl Xm) rfl (Wt x139 _) ?_
     rintro _ w148 ⟨rfl, hg149⟩
     have hb150 := low0 hb147 hg149
     refine Yk (b' := !rightOk x139) rfl rfl rfl ?_
     refine Xa ?_
     refine Xw rfl (fun h151 => ?_) (fun h151 => ?_)
     ·
      have h152 := Zn h151
      refine Xb ?_
      refine Xh (v := .bool false) rfl rfl ?_
      refine Xa ?_
      refine Xs ?_
      refine Y6 ?_
      refine Yi ?_
      refine Yi ?_
      refine Y6 ?_
      refine Yi ?_
      refine ⟨.bool false, Yq rfl rfl, ?_, hb150⟩
      rw [Vv h115]
      simp [Qo (p := rightOk) hx140 h152]
     ·
      have h153 := Zh h151
      refine Xy ?_
      refine Yy ?_
      refine Xv ?_
      refine X1 ?_
      refine Yx (c := (k : Int) + 1) e135 rfl (by omega) (by omega) (by omega) rfl ?_
      refine Xc (v := .int .i64 ((k : Int) + 1)) rfl rfl ?_
      refine Xa ?_
      refine Xv ?_
      exact ⟨m.t.slots.length - (k + 1), by omega, (k + 1), rfl, (by omega), (Qj (p := rightOk) ha hx140 h153), rfl, e136, hb150⟩
    ·
     have h154 := of_decide_eq_false h137
     refine Y5 ?_
     refine Y2 ?_
     refine Y2 ?_
     refine Z1 ?_
     refine Xv ?_
     refine Xb ?_
     refine Xh (v := .bool true) rfl rfl ?_
     refine Xa ?_
     refine Xs ?_
     refine ⟨.bool true, Yq rfl rfl, ?_, hb133⟩
     rw [Vv h115]
     rw [Qz (p := rightOk) ha (by omega), decide_eq_true (by omega)]; rfl
theorem L3 (m : MTh) (w : World) (hs : SlAt w m.sa 5 (m.t.slots.map Rt.cells)) (hq : SlAt w m.qa 1 (m.t.queue.map icell)) (hsl : m.t.slots.length ≤ 9223372036854775806) (hql : m.t.queue.length ≤ 9223372036854775806) : CallsR Tryd.prog 66 #[.agg #[.int .i64 m.t.kind, .int .i64 m.t.lab.s, .int .i64 m.t.lab.v, .int .i64 m.t.ve, .int .i64 m.t.num, .slice m.sa m.t.slots.length m.sc, .slice m.qa m.t.queue.length m.qc, .int .i64 m.t.to]] w (fun v w' => v = .bool (thingOk m.t) ∧ w.grownBy w' none) := by
 refine X0 (n := 31) Tryd.func66 rfl Tryd.ntmps66 rfl ?_
 have hb0 := World.grownBy.refl w none
 refine Xb ?_
 refine Yu (v := .agg #[.int .i64 m.t.kind, .int .i64 m.t.lab.s, .int .i64 m.t.lab.v, .int .i64 m.t.ve, .int .i64 m.t.num, .slice m.sa m.t.slots.length m.sc, .slice m.qa m.t.queue.length m.qc, .int .i64 m.t.to]) (cs := #[.int .i64 m.t.kind, .int .i64 m.t.lab.s, .int .i64 m.t.lab.v, .int .i64 m.t.ve, .int .i64 m.t.num, .slice m.sa m.t.slots.length m.sc, .slice m.qa m.t.queue.length m.qc, .int .i64 m.t.to]) rfl rfl rfl ?_
 intro B101 w102 hN103
 have hlB101 := Yf hN103 hb0
 have hb104 := low0 hb0 hN103.grw
 refine Xh (v := .bool false) rfl rfl ?_
 refine Xa ?_
 refine X2 (fun f' w' => (f' 2 = .bool ((((((inR m.t.kind 1 5 && labelOk m.t.lab) && versOk m.t) && numOk m.t) && slotsOk m.t) && queueOk m.t) && targetOk m.t)) ∧ w102.grownBy w' none) ?_ ?_
 ·
  refine Xd (o' := 0) Yt rfl rfl rfl ?_
  refine Xi (v := .int .i64 m.t.kind) X3 rfl (hN103.blk.cell rfl) rfl ?_
  refine Xn (vs := [.int .i64 m.t.kind, .int .i64 1, .int .i64 5]) Ju (Xg rfl (Xg rfl (Xg rfl Xm))) rfl (Z0 m.t.kind 1 5 _) ?_
  rintro _ w135 ⟨rfl, hg136⟩
  have hb137 := low0 hb104 hg136
  refine Xc (v := .bool (inR m.t.kind 1 5)) rfl rfl ?_
  rcases Yb (inR m.t.kind 1 5) with h138 | h138
  ·
   refine Xe rfl rfl rfl h138 ?_
   refine Xd (o' := 1) Q3 rfl rfl rfl ?_
   refine Xe rfl rfl rfl h138 ?_
   have k139 := (hN103.blk.grown0 hg136)
   refine Xu (vs := [.int .i64 m.t.lab.s, .int .i64 m.t.lab.v]) Qd rfl rfl (k139.rangeL 1 2 rfl) rfl ?_
   refine Xe rfl rfl rfl h138 ?_
   refine Xn (vs := [.agg #[.int .i64 m.t.lab.s, .int .i64 m.t.lab.v]]) P5 (Xg rfl Xm) rfl (Vr m.t.lab _) ?_
   rintro _ w140 ⟨rfl, hg141⟩
   have hb142 := low0 hb137 hg141
   refine Xr (v := .bool (labelOk m.t.lab)) rfl h138 rfl rfl ?_
   refine Xc (v := .bool (labelOk m.t.lab)) rfl rfl ?_
   rcases Yb (labelOk m.t.lab) with h143 | h143
   ·
    refine Xe rfl rfl rfl h143 ?_
    have k144 := (k139.grown0 hg141)
    refine Xu (vs := [.int .i64 m.t.kind, .int .i64 m.t.lab.s, .int .i64 m.t.lab.v, .int .i64 m.t.ve, .int .i64 m.t.num, .slice m.sa m.t.slots.length m.sc, .slice m.qa m.t.queue.length m.qc, .int .i64 m.t.to]) Y0 rfl rfl (k144.rangeL 0 8 rfl) rfl ?_
    refine Xe rfl rfl rfl h143 ?_
    refine Xn (vs := [.agg #[.int .i64 m.t.kind, .int .i64 m.t.lab.s, .int .i64 m.t.lab.v, .int .i64 m.t.ve, .int .i64 m.t.num, .slice m.sa m.t.slots.length m.sc, .slice m.qa m.t.queue.length m.qc, .int .i64 m.t.to]]) M0 (Xg rfl Xm) rfl (Pc m _) ?_
    rintro _ w145 ⟨rfl, hg146⟩
    have hb147 := low0 hb142 hg146
    refine Xr (v := .bool (versOk m.t)) rfl h143 rfl rfl ?_
    refine Xc (v := .bool (versOk m.t)) rfl rfl ?_
    rcases Yb (versOk m.t) with h148 | h148
    ·
     refine Xe rfl rfl rfl h148 ?_
     have k149 := (k144.grown0 hg146)
     refine Xu (vs := [.int .i64 m.t.kind, .int .i64 m.t.lab.s, .int .i64 m.t.lab.v, .int .i64 m.t.ve, .int .i64 m.t.num, .slice m.sa m.t.slots.length m.sc, .slice m.qa m.t.queue.length m.qc, .int .i64 m.t.to]) Y0 rfl rfl (k149.rangeL 0 8 rfl) rfl ?_
     refine Xe rfl rfl rfl h148 ?_
     refine Xn (vs := [.agg #[.int .i64 m.t.kind, .int .i64 m.t.lab.s, .int .i64 m.t.lab.v, .int .i64 m.t.ve, .int .i64 m.t.num, .slice m.sa m.t.slots.length m.sc, .slice m.qa m.t.queue.length m.qc, .int .i64 m.t.to]]) Mv (Xg rfl Xm) rfl (R7 m _) ?_
     rintro _ w150 ⟨rfl, hg151⟩
     have hb152 := low0 hb147 hg151
     refine Xr (v := .bool (numOk m.t)) rfl h148 rfl rfl ?_
     refine Xc (v := .bool (numOk m.t)) rfl rfl ?_
     rcases Yb (numOk m.t) with h153 | h153
     ·
      refine Xe rfl rfl rfl h153 ?_
      have k154 := (k149.grown0 hg151)
      refine Xu (vs := [.int .i64 m.t.kind, .int .i64 m.t.lab.s, .int .i64 m.t.lab.v, .int .i64 m.t.ve, .int .i64 m.t.num, .slice m.sa m.t.slots.length m.sc, .slice m.qa m.t.queue.length m.qc, .int .i64 m.t.to]) Y0 rfl rfl (k154.rangeL 0 8 rfl) rfl ?_
      refine Xe rfl rfl rfl h153 ?_
      refine Xn (vs := [.agg #[.int .i64 m.t.kind, .int .i64 m.t.lab.s, .int .i64 m.t.lab.v, .int .i64 m.t.ve, .int .i64 m.t.num, .slice m.sa m.t.slots.length m.sc, .slice m.qa m.t.queue.length m.qc, .int .i64 m.t.to]]) Mk (Xg rfl Xm) rfl (L8 m _ (SlAt.low hs hb152) (SlAt.low hq hb152) (by first | omega | exact Nat.le_of_ble_eq_true rfl | (simp only [List.length_nil, List.length_cons, List.length_append, List.length_replicate]; omega)) (by first | omega | exact Nat.le_of_ble_eq_true rfl | (simp only [List.length_nil, List.length_cons, List.length_append, List.length_replicate]; omega))) ?_
      rintro _ w155 ⟨rfl, hg156⟩
      have hb157 := low0 hb152 hg156
      refine Xr (v := .bool (slotsOk m.t)) rfl h153 rfl rfl ?_
      refine Xc (v := .bool (slotsOk m.t)) rfl rfl ?_
      rcases Yb (slotsOk m.t) with h158 | h158
      ·
       refine Xe rfl rfl rfl h158 ?_
       have k159 := (k154.grown0 hg156)
       refine Xu (vs := [.int .i64 m.t.kind, .int .i64 m.t.lab.s, .int .i64 m.t.lab.v, .int .i64 m.t.ve, .int .i64 m.t.num, .slice m.sa m.t.slots.length m.sc, .slice m.qa m.t.queue.length m.qc, .int .i64 m.t.to]) Y0 rfl rfl (k159.rangeL 0 8 rfl) rfl ?_
       refine Xe rfl rfl rfl h158 ?_
       refine Xn (vs := [.agg #[.int .i64 m.t.kind, .int .i64 m.t.lab.s, .int .i64 m.t.lab.v, .int .i64 m.t.ve, .int .i64 m.t.num, .slice m.sa m.t.slots.length m.sc, .slice m.qa m.t.queue.length m.qc, .int .i64 m.t.to]]) M2 (Xg rfl Xm) rfl (Nq m _ (SlAt.low hs hb157) (SlAt.low hq hb157) (by first | omega | exact Nat.le_of_ble_eq_true rfl | (simp only [List.length_nil, List.length_cons, List.length_append, List.length_replicate]; omega)) (by first | omega | exact Nat.le_of_ble_eq_true rfl | (simp only [List.length_nil, List.length_cons, List.length_append, List.length_replicate]; omega))) ?_
       rintro _ w160 ⟨rfl, hg161⟩
       have hb162 := low0 hb157 hg161
       refine Xr (v := .bool (queueOk m.t)) rfl h158 rfl rfl ?_
       refine Xc (v := .bool (queueOk m.t)) rfl rfl ?_
       rcases Yb (queueOk m.t) with h163 | h163
       ·
        refine Xe rfl rfl rfl h163 ?_
        have k164 := (k159.grown0 hg161)
        refine Xu (vs := [.int .i64 m.t.kind, .int .i64 m.t.lab.s, .int .i64 m.t.lab.v, .int .i64 m.t.ve, .int .i64 m.t.num, .slice m.sa m.t.slots.length m.sc, .slice m.qa m.t.queue.length m.qc, .int .i64 m.t.to]) Y0 rfl rfl (k164.rangeL 0 8 rfl) rfl ?_
        refine Xe rfl rfl rfl h163 ?_
        refine Xn (vs := [.agg #[.int .i64 m.t.kind, .int .i64 m.t.lab.s, .int .i64 m.t.lab.v, .int .i64 m.t.ve, .int .i64 m.t.num, .slice m.sa m.t.slots.length m.sc, .slice m.qa m.t.queue.length m.qc, .int .i64 m.t.to]]) Mc (Xg rfl Xm) rfl (Hw m _) ?_
        rintro _ w165 ⟨rfl, hg166⟩
        have hb167 := low0 hb162 hg166
        refine Xr (v := .bool (targetOk m.t)) rfl h163 rfl rfl ?_
        refine Xh (v := .bool (targetOk m.t)) rfl rfl ?_
        exact Xa ⟨(congrArg Value.bool (by first | (simp only [h138, h143, h148, h153, h158, h163, b0, b1, b2, b3, b4, b5, b6, b7, b8, b9]; done) | simp [h138, h143, h148, h153, h158, h163])), (grown_trans (grown_trans (grown_trans (grown_trans (grown_trans (grown_trans hg136 hg141) hg146) hg151) hg156) hg161) hg166)⟩
       ·
        refine Xk rfl rfl rfl h163 rfl ?_
        refine Xk rfl rfl rfl h163 rfl ?_
        refine Xl (v := .bool false) rfl h163 rfl rfl ?_
        refine Xh (v := .bool false) rfl rfl ?_
        exact Xa ⟨(congrArg Value.bool (by first | (simp only [h138, h143, h148, h153, h158, h163, b0, b1, b2, b3, b4, b5, b6, b7, b8, b9]; done) | simp [h138, h143, h148, h153, h158, h163])), (grown_trans (grown_trans (grown_trans (grown_trans (grown_trans hg136 hg141) hg146) hg151) hg156) hg161)⟩
      ·
       refine Xk rfl rfl rfl h158 rfl ?_
       refine Xk rfl rfl rfl h158 rfl ?_
       refine Xl (v := .bool false) rfl h158 rfl rfl ?_
       refine Xc (v := .bool false) rfl rfl ?_
       refine Xk rfl rfl rfl rfl rfl ?_
       refine Xk rfl rfl rfl rfl rfl ?_
       refine Xl (v := .bool false) rfl rfl rfl rfl ?_
       refine Xh (v := .bool false) rfl rfl ?_
       exact Xa ⟨(congrArg Value.bool (by first | (simp only [h138, h143, h148, h153, h158, b0, b1, b2, b3, b4, b5, b6, b7, b8, b9]; done) | simp [h138, h143, h148, h153, h158])), (grown_trans (grown_trans (grown_trans (grown_trans hg136 hg141) hg146) hg151) hg156)⟩
     ·
      refine Xk rfl rfl rfl h153 rfl ?_
      refine Xk rfl rfl rfl h153 rfl ?_
      refine Xl (v := .bool false) rfl h153 rfl rfl ?_
      refine Xc (v := .bool false) rfl rfl ?_
      refine Xk rfl rfl rfl rfl rfl ?_
      refine Xk rfl rfl rfl rfl rfl ?_
      refine Xl (v := .bool false) rfl rfl rfl rfl ?_
      refine Xc (v := .bool false) rfl rfl ?_
      refine Xk rfl rfl rfl rfl rfl ?_
      refine Xk rfl rfl rfl rfl rfl ?_
      refine Xl (v := .bool false) rfl rfl rfl rfl ?_
      refine Xh (v := .bool false) rfl rfl ?_
      exact Xa ⟨(congrArg Value.bool (by first | (simp only [h138, h143, h148, h153, b0, b1, b2, b3, b4, b5, b6, b7, b8, b9]; done) | simp [h138, h143, h148, h153])), (grown_trans (grown_trans (grown_trans hg136 hg141) hg146) hg151)⟩
    ·
     refine Xk rfl rfl rfl h148 rfl ?_
     refine Xk rfl rfl rfl h148 rfl ?_
     refine Xl (v := .bool false) rfl h148 rfl rfl ?_
     refine Xc (v := .bool false) rfl rfl ?_
     refine Xk rfl rfl rfl rfl rfl ?_
     refine Xk rfl rfl rfl rfl rfl ?_
     refine Xl (v := .bool false) rfl rfl rfl rfl ?_
     refine Xc (v := .bool false) rfl rfl ?_
     refine Xk rfl rfl rfl rfl rfl ?_
     refine Xk rfl rfl rfl rfl rfl ?_
     refine Xl (v := .bool false) rfl rfl rfl rfl ?_
     refine Xc (v := .bool false) rfl rfl ?_
     refine Xk rfl rfl rfl rfl rfl ?_
     refine Xk rfl rfl rfl rfl rfl ?_
     refine Xl (v := .bool false) rfl rfl rfl rfl ?_
     refine Xh (v := .bool false) rfl rfl ?_
     exact Xa ⟨(congrArg Value.bool (by first | (simp only [h138, h143, h148, b0, b1, b2, b3, b4, b5, b6, b7, b8, b9]; done) | simp [h138, h143, h148])), (grown_trans (grown_trans hg136 hg141) hg146)⟩
   ·
    refine Xk rfl rfl rfl h143 rfl ?_
    refine Xk rfl rfl rfl h143 rfl ?_
    refine Xl (v := .bool false) rfl h143 rfl rfl ?_
    refine Xc (v := .bool false) rfl rfl ?_
    refine Xk rfl rfl rfl rfl rfl ?_
    refine Xk rfl rfl rfl rfl rfl ?_
    refine Xl (v := .bool false) rfl rfl rfl rfl ?_
    refine Xc (v := .bool false) rfl rfl ?_
    refine Xk rfl rfl rfl rfl rfl ?_
    refine Xk rfl rfl rfl rfl rfl ?_
    refine Xl (v := .bool false) rfl rfl rfl rfl ?_
    refine Xc (v := .bool false) rfl rfl ?_
    refine Xk rfl rfl rfl rfl rfl ?_
    refine Xk rfl rfl rfl rfl rfl ?_
    refine Xl (v := .bool false) rfl rfl rfl rfl ?_
    refine Xc (v := .bool false) rfl rfl ?_
    refine Xk rfl rfl rfl rfl rfl ?_
    refine Xk rfl rfl rfl rfl rfl ?_
    refine Xl (v := .bool false) rfl rfl rfl rfl ?_
    refine Xh (v := .bool false) rfl rfl ?_
    exact Xa ⟨(congrArg Value.bool (by first | (simp only [h138, h143, b0, b1, b2, b3, b4, b5, b6, b7, b8, b9]; done) | simp [h138, h143])), (grown_trans hg136 hg141)⟩
  ·
   iterate 3 refine Xk rfl rfl rfl h138 rfl ?_
   refine Xl (v := .bool false) rfl h138 rfl rfl ?_
   refine Xc (v := .bool false) rfl rfl ?_
   refine Xk rfl rfl rfl rfl rfl ?_
   refine Xk rfl rfl rfl rfl rfl ?_
   refine Xl (v := .bool false) rfl rfl rfl rfl ?_
   refine Xc (v := .bool false) rfl rfl ?_
   refine Xk rfl rfl rfl rfl rfl ?_
   refine Xk rfl rfl rfl rfl rfl ?_
   refine Xl (v := .bool false) rfl rfl rfl rfl ?_
   refine Xc (v := .bool false) rfl rfl ?_
   refine Xk rfl rfl rfl rfl rfl ?_
   refine Xk rfl rfl rfl rfl rfl ?_
   refine Xl (v := .bool false) rfl rfl rfl rfl ?_
   refine Xc (v := .bool false) rfl rfl ?_
   refine Xk rfl rfl rfl rfl rfl ?_
   refine Xk rfl rfl rfl rfl rfl ?_
   refine Xl (v := .bool false) rfl rfl rfl rfl ?_
   refine Xc (v := .bool false) rfl rfl ?_
   refine Xk rfl rfl rfl rfl rfl ?_
   refine Xk rfl rfl rfl rfl rfl ?_
   refine Xl (v := .bool false) rfl rfl rfl rfl ?_
   refine Xh (v := .bool false) rfl rfl ?_
   exact Xa ⟨(congrArg Value.bool (by first | (simp only [h138, b0, b1, b2, b3, b4, b5, b6, b7, b8, b9]; done) | simp [h138])), hg136⟩
 ·
  rintro f168 w169 ⟨e170, hg171⟩
  have hb172 := low0 hb104 hg171
  refine Xs ?_
  refine ⟨.bool ((((((inR m.t.kind 1 5 && labelOk m.t.lab) && versOk m.t) && numOk m.t) && slotsOk m.t) && queueOk m.t) && targetOk m.t), Yq rfl e170, ?_, hb172⟩
  rfl
theorem Jd (n : Int) (w : World) : CallsR Tryd.prog 71 #[.int .i64 n] w (fun v w' => v = .bool (decide (n = 2) || decide (n = 3)) ∧ w.grownBy w' none) := by
 refine X0 (n := 9) Tryd.func71 rfl Tryd.ntmps71 rfl ?_
 have hb0 := World.grownBy.refl w none
 refine Xb ?_
 refine Xh (v := .bool false) rfl rfl ?_
 refine Xa ?_
 refine X2 (fun f' w' => (f' 2 = .bool ((decide (n = 2)) || (decide (n = 3)))) ∧ w = w') ?_ ?_
 ·
  refine Xc (v := .int .i64 n) rfl rfl ?_
  refine X4 (q := decide (n = 2)) rfl rfl rfl rfl ?_
  refine Xc (v := .bool (decide (n = 2))) rfl rfl ?_
  rcases Yb (decide (n = 2)) with h101 | h101
  ·
   have h102 := of_decide_eq_true h101
   refine Xk rfl rfl rfl h101 rfl ?_
   refine Xk rfl rfl rfl h101 rfl ?_
   refine Xr (v := .bool true) rfl h101 rfl rfl ?_
   refine Xh (v := .bool true) rfl rfl ?_
   exact Xa ⟨(congrArg Value.bool (by first | (simp only [h101, b0, b1, b2, b3, b4, b5, b6, b7, b8, b9]; done) | simp [h101])), rfl⟩
  ·
   have h103 := of_decide_eq_false h101
   refine Xe rfl rfl rfl h101 ?_
   refine Xc (v := .int .i64 n) rfl rfl ?_
   refine Xe rfl rfl rfl h101 ?_
   refine X4 (q := decide (n = 3)) rfl rfl rfl rfl ?_
   refine Xl (v := .bool (decide (n = 3))) rfl h101 rfl rfl ?_
   refine Xh (v := .bool (decide (n = 3))) rfl rfl ?_
   exact Xa ⟨(congrArg Value.bool (by first | (simp only [h101, b0, b1, b2, b3, b4, b5, b6, b7, b8, b9]; done) | simp [h101])), rfl⟩
 ·
  rintro f104 w105 ⟨e106, rfl⟩
  refine Xs ?_
  refine ⟨.bool ((decide (n = 2)) || (decide (n = 3))), Yq rfl e106, ?_, hb0⟩
  rfl
theorem J4 (m : MTh) (w : World) (hs : SlAt w m.sa 5 (m.t.slots.map Rt.cells)) (hq : SlAt w m.qa 1 (m.t.queue.map icell)) (hsl : m.t.slots.length ≤ 9223372036854775806) (hql : m.t.queue.length ≤ 9223372036854775806) : CallsR Tryd.prog 39 #[.agg #[.int .i64 m.t.kind, .int .i64 m.t.lab.s, .int .i64 m.t.lab.v, .int .i64 m.t.ve, .int .i64 m.t.num, .slice m.sa m.t.slots.length m.sc, .slice m.qa m.t.queue.length m.qc, .int .i64 m.t.to]] w (fun v w' => v = .bool (thingOk m.t) ∧ w.grownBy w' none) := by
 refine X0 (n := 144) Tryd.func39 rfl Tryd.ntmps39 rfl ?_
 have hb0 := World.grownBy.refl w none
 refine Xb ?_
 refine Yu (v := .agg #[.int .i64 m.t.kind, .int .i64 m.t.lab.s, .int .i64 m.t.lab.v, .int .i64 m.t.ve, .int .i64 m.t.num, .slice m.sa m.t.slots.length m.sc, .slice m.qa m.t.queue.length m.qc, .int .i64 m.t.to]) (cs := #[.int .i64 m.t.kind, .int .i64 m.t.lab.s, .int .i64 m.t.lab.v, .int .i64 m.t.ve, .int .i64 m.t.num, .slice m.sa m.t.slots.length m.sc, .slice m.qa m.t.queue.length m.qc, .int .i64 m.t.to]) rfl rfl rfl ?_
 intro B101 w102 hN103
 have hlB101 := Yf hN103 hb0
 have hb104 := low0 hb0 hN103.grw
 refine Xh (v := .bool false) rfl rfl ?_
 refine Xa ?_
 refine Xt ?_
 refine X2 (fun f' w' => (f' 1 = .pointer (some ⟨B101, 0, none⟩) ∧ f' 2 = .bool false ∧ f' 27 = .bool ((((!inR m.t.kind 1 5) || (!labelOk m.t.lab)) || (!inR m.t.ve 0 5)) || (decide (3 < (m.t.queue.length : Int))))) ∧ w102.grownBy w' none) ?_ ?_
 ·
  refine Xd (o' := 0) Yt rfl rfl rfl ?_
  refine Xi (v := .int .i64 m.t.kind) X3 rfl (hN103.blk.cell rfl) rfl ?_
  refine Xn (vs := [.int .i64 m.t.kind, .int .i64 1, .int .i64 5]) Q4 (Xg rfl (Xg rfl (Xg rfl Xm))) rfl (Qk m.t.kind 1 5 _) ?_
  rintro _ w120 ⟨rfl, hg121⟩
  have hb122 := low0 hb104 hg121
  refine Yk (b' := !inR m.t.kind 1 5) rfl rfl rfl ?_
  refine Xc (v := .bool (!inR m.t.kind 1 5)) rfl rfl ?_
  rcases Yb (!inR m.t.kind 1 5) with h123 | h123
  ·
   have h124 := Zn h123
   iterate 4 refine Xk rfl rfl rfl h123 rfl ?_
   refine Xr (v := .bool true) rfl h123 rfl rfl ?_
   refine Xc (v := .bool true) rfl rfl ?_
   iterate 4 refine Xk rfl rfl rfl rfl rfl ?_
   refine Xr (v := .bool true) rfl rfl rfl rfl ?_
   refine Xc (v := .bool true) rfl rfl ?_
   iterate 4 refine Xk rfl rfl rfl rfl rfl ?_
   refine Xr (v := .bool true) rfl rfl rfl rfl ?_
   exact Xa ⟨⟨rfl, rfl, (congrArg Value.bool (by first | (simp only [h123, h124, b0, b1, b2, b3, b4, b5, b6, b7, b8, b9]; done) | simp [h123, h124]))⟩, hg121⟩
  ·
   have h125 := Zh h123
   refine Xe rfl rfl rfl h123 ?_
   refine Xd (o' := 1) Q3 rfl rfl rfl ?_
   refine Xe rfl rfl rfl h123 ?_
   have k126 := (hN103.blk.grown0 hg121)
   refine Xu (vs := [.int .i64 m.t.lab.s, .int .i64 m.t.lab.v]) Qd rfl rfl (k126.rangeL 1 2 rfl) rfl ?_
   refine Xe rfl rfl rfl h123 ?_
   refine Xn (vs := [.agg #[.int .i64 m.t.lab.s, .int .i64 m.t.lab.v]]) T8 (Xg rfl Xm) rfl (Hv m.t.lab _) ?_
   rintro _ w127 ⟨rfl, hg128⟩
   have hb129 := low0 hb122 hg128
   refine Xe rfl rfl rfl h123 ?_
   refine Yk (b' := !labelOk m.t.lab) rfl rfl rfl ?_
   refine Xl (v := .bool (!labelOk m.t.lab)) rfl h123 rfl rfl ?_
   refine Xc (v := .bool (!labelOk m.t.lab)) rfl rfl ?_
   rcases Yb (!labelOk m.t.lab) with h130 | h130
   ·
    have h131 := Zn h130
    iterate 4 refine Xk rfl rfl rfl h130 rfl ?_
    refine Xr (v := .bool true) rfl h130 rfl rfl ?_
    refine Xc (v := .bool true) rfl rfl ?_
    iterate 4 refine Xk rfl rfl rfl rfl rfl ?_
    refine Xr (v := .bool true) rfl rfl rfl rfl ?_
    exact Xa ⟨⟨rfl, rfl, (congrArg Value.bool (by first | (simp only [h123, h125, h130, h131, b0, b1, b2, b3, b4, b5, b6, b7, b8, b9]; done) | simp [h123, h125, h130, h131]))⟩, (grown_trans hg121 hg128)⟩
   ·
    have h132 := Zh h130
    refine Xe rfl rfl rfl h130 ?_
    refine Xd (o' := 3) Z6 rfl rfl rfl ?_
    refine Xe rfl rfl rfl h130 ?_
    have k133 := (k126.grown0 hg128)
    refine Xi (v := .int .i64 m.t.ve) X3 rfl (k133.cell rfl) rfl ?_
    refine Xe rfl rfl rfl h130 ?_
    refine Xn (vs := [.int .i64 m.t.ve, .int .i64 0, .int .i64 5]) Q4 (Xg rfl (Xg rfl (Xg rfl Xm))) rfl (Qk m.t.ve 0 5 _) ?_
    rintro _ w134 ⟨rfl, hg135⟩
    have hb136 := low0 hb129 hg135
    refine Xe rfl rfl rfl h130 ?_
    refine Yk (b' := !inR m.t.ve 0 5) rfl rfl rfl ?_
    refine Xl (v := .bool (!inR m.t.ve 0 5)) rfl h130 rfl rfl ?_
    refine Xc (v := .bool (!inR m.t.ve 0 5)) rfl rfl ?_
    rcases Yb (!inR m.t.ve 0 5) with h137 | h137
    ·
     have h138 := Zn h137
     iterate 4 refine Xk rfl rfl rfl h137 rfl ?_
     refine Xr (v := .bool true) rfl h137 rfl rfl ?_
     exact Xa ⟨⟨rfl, rfl, (congrArg Value.bool (by first | (simp only [h123, h125, h130, h132, h137, h138, b0, b1, b2, b3, b4, b5, b6, b7, b8, b9]; done) | simp [h123, h125, h130, h132, h137, h138]))⟩, (grown_trans (grown_trans hg121 hg128) hg135)⟩
    ·
     have h139 := Zh h137
     refine Xe rfl rfl rfl h137 ?_
     refine Xd (o' := 6) Qw rfl rfl rfl ?_
     refine Xe rfl rfl rfl h137 ?_
     have k140 := (k133.grown0 hg135)
     refine Xi (v := .slice m.qa m.t.queue.length m.qc) Jo rfl (k140.cell rfl) rfl ?_
     refine Xe rfl rfl rfl h137 ?_
     refine Ym (by kernel_rfl) rfl rfl ?_
     refine Xe rfl rfl rfl h137 ?_
     refine Zq (q := decide (3 < (m.t.queue.length : Int))) rfl rfl rfl rfl ?_
     refine Xl (v := .bool (decide (3 < (m.t.queue.length : Int)))) rfl h137 rfl rfl ?_
     exact Xa ⟨⟨rfl, rfl, (congrArg Value.bool (by first | (simp only [h123, h125, h130, h132, h137, h139, b0, b1, b2, b3, b4, b5, b6, b7, b8, b9]; done) | simp [h123, h125, h130, h132, h137, h139]))⟩, (grown_trans (grown_trans hg121 hg128) hg135)⟩
 ·
  rintro f141 w142 ⟨⟨e143, e144, e145⟩, hg146⟩
  have hb147 := low0 hb104 hg146
  refine Xw e145 (fun h148 => ?_) (fun h148 => ?_)
  ·
   refine Xb ?_
   refine Xh (v := .bool false) rfl rfl ?_
   refine Xa ?_
   refine Xs ?_
   refine Yi ?_
   refine ⟨.bool false, Yq rfl rfl, ?_, hb147⟩
   exact congrArg Value.bool (Bm h148)
  ·
   have h149 := Qx h148
   have h150 := Qx h149
   have h151 := Qx h150
   have h152 := Zh h151
   have h153 := Qy h150
   have h154 := Zh h153
   have h155 := Qy h149
   have h156 := Zh h155
   have h157 := Qy h148
   have h158 := of_decide_eq_false h157
   refine Xy ?_
   refine Xv ?_
   refine Xb ?_
   refine Xh (v := .int .i64 0) rfl rfl ?_
   refine Xa ?_
   refine Xt ?_
   refine Xb ?_
   refine Xd (o' := 0) Yt e143 rfl rfl ?_
   have k159 := (hN103.blk.grown0 hg146)
   refine Xi (v := .int .i64 m.t.kind) X3 rfl (k159.cell rfl) rfl ?_
   refine X4 (q := decide (m.t.kind = 3)) rfl rfl rfl rfl ?_
   refine Xa ?_
   refine Lw (fun f' w' => (f' 1 = .pointer (some ⟨B101, 0, none⟩) ∧ f' 2 = .bool false ∧ f' 3 = .int .i64 (if m.t.kind = 3 then (-4) else 0)) ∧ w142 = w') ?_ ?_
   ·
    refine Xw rfl (fun h160 => ?_) (fun h160 => ?_)
    ·
     have h161 := of_decide_eq_true h160
     refine X1 ?_
     refine Xh (v := .int .i64 (-4)) rfl rfl ?_
     refine Xa ?_
     refine Xv ?_
     exact ⟨⟨e143, e144, (congrArg (Value.int .i64) (if_pos (of_decide_eq_true h160)).symm)⟩, rfl⟩
    ·
     have h162 := of_decide_eq_false h160
     refine Xy ?_
     refine Xv ?_
     exact ⟨⟨e143, e144, (congrArg (Value.int .i64) (if_neg (of_decide_eq_false h160)).symm)⟩, rfl⟩
   ·
    rintro f163 _ ⟨⟨e165, e166, e167⟩, rfl⟩
    refine Xv ?_
    refine Xt ?_
    refine X2 (fun f' w' => (f' 1 = .pointer (some ⟨B101, 0, none⟩) ∧ f' 2 = .bool false ∧ f' 65 = .bool (((!inR m.t.num (if m.t.kind = 3 then (-4) else 0) 99) || ((!(decide (m.t.num = 0))) && ((decide (m.t.kind = 2)) || (decide (m.t.kind = 4))))) || ((!(decide (m.t.ve = 0))) && ((decide (m.t.kind = 3)) || (decide (m.t.kind = 5)))))) ∧ w142.grownBy w' none) ?_ ?_
    ·
     refine Xd (o' := 4) Qm e165 rfl rfl ?_
     refine Xi (v := .int .i64 m.t.num) X3 rfl (k159.cell rfl) rfl ?_
     refine Xc (v := .int .i64 (if m.t.kind = 3 then (-4) else 0)) e167 rfl ?_
     refine Xn (vs := [.int .i64 m.t.num, .int .i64 (if m.t.kind = 3 then (-4) else 0), .int .i64 99]) Q4 (Xg rfl (Xg rfl (Xg rfl Xm))) rfl (Qk m.t.num (if m.t.kind = 3 then (-4) else 0) 99 _) ?_
     rintro _ w175 ⟨rfl, hg176⟩
     have hb177 := low0 hb147 hg176
     refine Yk (b' := !inR m.t.num (if m.t.kind = 3 then (-4) else 0) 99) rfl rfl rfl ?_
     refine Xc (v := .bool (!inR m.t.num (if m.t.kind = 3 then (-4) else 0) 99)) rfl rfl ?_
     rcases Yb (!inR m.t.num (if m.t.kind = 3 then (-4) else 0) 99) with h178 | h178
     ·
      have h179 := Zn h178
      iterate 4 refine Xk rfl rfl rfl h178 rfl ?_
      iterate 8 refine Yg rfl rfl rfl rfl ?_
      refine Xk rfl rfl rfl h178 rfl ?_
      refine Xr (v := .bool true) rfl h178 rfl rfl ?_
      refine Xc (v := .bool true) rfl rfl ?_
      iterate 4 refine Xk rfl rfl rfl rfl rfl ?_
      iterate 8 refine Yg rfl rfl rfl rfl ?_
      refine Xk rfl rfl rfl rfl rfl ?_
      refine Xr (v := .bool true) rfl rfl rfl rfl ?_
      exact Xa ⟨⟨e165, e166, (congrArg Value.bool (by first | (simp only [h148, h149, h150, h151, h152, h153, h154, h155, h156, h157, h178, h179, b0, b1, b2, b3, b4, b5, b6, b7, b8, b9]; done) | simp [h148, h149, h150, h151, h152, h153, h154, h155, h156, h157, h178, h179]))⟩, hg176⟩
     ·
      have h180 := Zh h178
      refine Xe rfl rfl rfl h178 ?_
      refine Xd (o' := 4) Qm e165 rfl rfl ?_
      refine Xe rfl rfl rfl h178 ?_
      have k181 := (k159.grown0 hg176)
      refine Xi (v := .int .i64 m.t.num) X3 rfl (k181.cell rfl) rfl ?_
      refine Xe rfl rfl rfl h178 ?_
      refine Y7 (q := !(decide (m.t.num = 0))) rfl rfl rfl rfl ?_
      refine Xe rfl rfl rfl h178 ?_
      refine Xc (v := .bool (!(decide (m.t.num = 0)))) rfl rfl ?_
      rcases Yb (!(decide (m.t.num = 0))) with h182 | h182
      ·
       have h183 := Zn h182
       have h184 := of_decide_eq_false h183
       refine Xe rfl rfl rfl h182 ?_
       refine Xd (o' := 0) Yt e165 rfl rfl ?_
       refine Xe rfl rfl rfl h182 ?_
       refine Xi (v := .int .i64 m.t.kind) X3 rfl (k181.cell rfl) rfl ?_
       refine Xe rfl rfl rfl h182 ?_
       refine X4 (q := decide (m.t.kind = 2)) rfl rfl rfl rfl ?_
       refine Xe rfl rfl rfl h182 ?_
       refine Xc (v := .bool (decide (m.t.kind = 2))) rfl rfl ?_
       rcases Yb (decide (m.t.kind = 2)) with h185 | h185
       ·
        have h186 := of_decide_eq_true h185
        iterate 3 refine Xk rfl rfl rfl h185 rfl ?_
        refine Xe rfl rfl rfl h182 ?_
        refine Xr (v := .bool true) rfl h185 rfl rfl ?_
        refine Xe rfl rfl rfl h178 ?_
        refine Xr (v := .bool true) rfl h182 rfl rfl ?_
        refine Xl (v := .bool true) rfl h178 rfl rfl ?_
        refine Xc (v := .bool true) rfl rfl ?_
        iterate 4 refine Xk rfl rfl rfl rfl rfl ?_
        iterate 8 refine Yg rfl rfl rfl rfl ?_
        refine Xk rfl rfl rfl rfl rfl ?_
        refine Xr (v := .bool true) rfl rfl rfl rfl ?_
        exact Xa ⟨⟨e165, e166, (congrArg Value.bool (by first | (simp only [h148, h149, h150, h151, h152, h153, h154, h155, h156, h157, h178, h180, h182, h183, h185, b0, b1, b2, b3, b4, b5, b6, b7, b8, b9]; done) | simp [h148, h149, h150, h151, h152, h153, h154, h155, h156, h157, h178, h180, h182, h183, h185]))⟩, hg176⟩
       ·
        have h187 := of_decide_eq_false h185
        refine Xe rfl rfl rfl h185 ?_
        refine Xd (o' := 0) Yt e165 rfl rfl ?_
        refine Xe rfl rfl rfl h185 ?_
        refine Xi (v := .int .i64 m.t.kind) X3 rfl (k181.cell rfl) rfl ?_
        refine Xe rfl rfl rfl h185 ?_
        refine X4 (q := decide (m.t.kind = 4)) rfl rfl rfl rfl ?_
        refine Xe rfl rfl rfl h182 ?_
        refine Xl (v := .bool (decide (m.t.kind = 4))) rfl h185 rfl rfl ?_
        refine Xe rfl rfl rfl h178 ?_
        refine Xr (v := .bool (decide (m.t.kind = 4))) rfl h182 rfl rfl ?_
        refine Xl (v := .bool (decide (m.t.kind = 4))) rfl h178 rfl rfl ?_
        refine Xc (v := .bool (decide (m.t.kind = 4))) rfl rfl ?_
        rcases Yb (decide (m.t.kind = 4)) with h188 | h188
        ·
         have h189 := of_decide_eq_true h188
         iterate 4 refine Xk rfl rfl rfl h188 rfl ?_
         iterate 8 refine Yg rfl rfl rfl rfl ?_
         refine Xk rfl rfl rfl h188 rfl ?_
         refine Xr (v := .bool true) rfl h188 rfl rfl ?_
         exact Xa ⟨⟨e165, e166, (congrArg Value.bool (by first | (simp only [h148, h149, h150, h151, h152, h153, h154, h155, h156, h157, h178, h180, h182, h183, h185, h188, b0, b1, b2, b3, b4, b5, b6, b7, b8, b9]; done) | simp [h148, h149, h150, h151, h152, h153, h154, h155, h156, h157, h178, h180, h182, h183, h185, h188]))⟩, hg176⟩
        ·
         have h190 := of_decide_eq_false h188
         refine Xe rfl rfl rfl h188 ?_
         refine Xd (o' := 3) Z6 e165 rfl rfl ?_
         refine Xe rfl rfl rfl h188 ?_
         refine Xi (v := .int .i64 m.t.ve) X3 rfl (k181.cell rfl) rfl ?_
         refine Xe rfl rfl rfl h188 ?_
         refine Y7 (q := !(decide (m.t.ve = 0))) rfl rfl rfl rfl ?_
         refine Xe rfl rfl rfl h188 ?_
         refine Xc (v := .bool (!(decide (m.t.ve = 0)))) rfl rfl ?_
         rcases Yb (!(decide (m.t.ve = 0))) with h191 | h191
         ·
          have h192 := Zn h191
          have h193 := of_decide_eq_false h192
          refine Xe rfl rfl rfl h191 ?_
          refine Xd (o' := 0) Yt e165 rfl rfl ?_
          refine Xe rfl rfl rfl h191 ?_
          refine Xi (v := .int .i64 m.t.kind) X3 rfl (k181.cell rfl) rfl ?_
          refine Xe rfl rfl rfl h191 ?_
          refine X4 (q := decide (m.t.kind = 3)) rfl rfl rfl rfl ?_
          refine Xe rfl rfl rfl h191 ?_
          refine Xc (v := .bool (decide (m.t.kind = 3))) rfl rfl ?_
          rcases Yb (decide (m.t.kind = 3)) with h194 | h194
          ·
           have h195 := of_decide_eq_true h194
           iterate 3 refine Xk rfl rfl rfl h194 rfl ?_
           refine Xe rfl rfl rfl h191 ?_
           refine Xr (v := .bool true) rfl h194 rfl rfl ?_
           refine Xe rfl rfl rfl h188 ?_
           refine Xr (v := .bool true) rfl h191 rfl rfl ?_
           refine Xl (v := .bool true) rfl h188 rfl rfl ?_
           exact Xa ⟨⟨e165, e166, (congrArg Value.bool (by first | (simp only [h148, h149, h150, h151, h152, h153, h154, h155, h156, h157, h178, h180, h182, h183, h185, h188, h191, h192, h194, b0, b1, b2, b3, b4, b5, b6, b7, b8, b9]; done) | simp [h148, h149, h150, h151, h152, h153, h154, h155, h156, h157, h178, h180, h182, h183, h185, h188, h191, h192, h194]))⟩, hg176⟩
          ·
           have h196 := of_decide_eq_false h194
           refine Xe rfl rfl rfl h194 ?_
           refine Xd (o' := 0) Yt e165 rfl rfl ?_
           refine Xe rfl rfl rfl h194 ?_
           refine Xi (v := .int .i64 m.t.kind) X3 rfl (k181.cell rfl) rfl ?_
           refine Xe rfl rfl rfl h194 ?_
           refine X4 (q := decide (m.t.kind = 5)) rfl rfl rfl rfl ?_
           refine Xe rfl rfl rfl h191 ?_
           refine Xl (v := .bool (decide (m.t.kind = 5))) rfl h194 rfl rfl ?_
           refine Xe rfl rfl rfl h188 ?_
           refine Xr (v := .bool (decide (m.t.kind = 5))) rfl h191 rfl rfl ?_
           refine Xl (v := .bool (decide (m.t.kind = 5))) rfl h188 rfl rfl ?_
           exact Xa ⟨⟨e165, e166, (congrArg Value.bool (by first | (simp only [h148, h149, h150, h151, h152, h153, h154, h155, h156, h157, h178, h180, h182, h183, h185, h188, h191, h192, h194, b0, b1, b2, b3, b4, b5, b6, b7, b8, b9]; done) | simp [h148, h149, h150, h151, h152, h153, h154, h155, h156, h157, h178, h180, h182, h183, h185, h188, h191, h192, h194]))⟩, hg176⟩
         ·
          have h197 := Zh h191
          have h198 := of_decide_eq_true h197
          iterate 4 refine Xk rfl rfl rfl h191 rfl ?_
          iterate 3 refine Yg rfl rfl rfl rfl ?_
          refine Xk rfl rfl rfl h191 rfl ?_
          refine Xe rfl rfl rfl h188 ?_
          refine Xl (v := .bool false) rfl h191 rfl rfl ?_
          refine Xl (v := .bool false) rfl h188 rfl rfl ?_
          exact Xa ⟨⟨e165, e166, (congrArg Value.bool (by first | (simp only [h148, h149, h150, h151, h152, h153, h154, h155, h156, h157, h178, h180, h182, h183, h185, h188, h191, h197, b0, b1, b2, b3, b4, b5, b6, b7, b8, b9]; done) | simp [h148, h149, h150, h151, h152, h153, h154, h155, h156, h157, h178, h180, h182, h183, h185, h188, h191, h197]))⟩, hg176⟩
      ·
       have h199 := Zh h182
       have h200 := of_decide_eq_true h199
       iterate 4 refine Xk rfl rfl rfl h182 rfl ?_
       iterate 3 refine Yg rfl rfl rfl rfl ?_
       refine Xk rfl rfl rfl h182 rfl ?_
       refine Xe rfl rfl rfl h178 ?_
       refine Xl (v := .bool false) rfl h182 rfl rfl ?_
       refine Xl (v := .bool false) rfl h178 rfl rfl ?_
       refine Xc (v := .bool false) rfl rfl ?_
       refine Xe rfl rfl rfl rfl ?_
       refine Xd (o' := 3) Z6 e165 rfl rfl ?_
       refine Xe rfl rfl rfl rfl ?_
       refine Xi (v := .int .i64 m.t.ve) X3 rfl (k181.cell rfl) rfl ?_
       refine Xe rfl rfl rfl rfl ?_
       refine Y7 (q := !(decide (m.t.ve = 0))) rfl rfl rfl rfl ?_
       refine Xe rfl rfl rfl rfl ?_
       refine Xc (v := .bool (!(decide (m.t.ve = 0)))) rfl rfl ?_
       rcases Yb (!(decide (m.t.ve = 0))) with h201 | h201
       ·
        have h202 := Zn h201
        have h203 := of_decide_eq_false h202
        refine Xe rfl rfl rfl h201 ?_
        refine Xd (o' := 0) Yt e165 rfl rfl ?_
        refine Xe rfl rfl rfl h201 ?_
        refine Xi (v := .int .i64 m.t.kind) X3 rfl (k181.cell rfl) rfl ?_
        refine Xe rfl rfl rfl h201 ?_
        refine X4 (q := decide (m.t.kind = 3)) rfl rfl rfl rfl ?_
        refine Xe rfl rfl rfl h201 ?_
        refine Xc (v := .bool (decide (m.t.kind = 3))) rfl rfl ?_
        rcases Yb (decide (m.t.kind = 3)) with h204 | h204
        ·
         have h205 := of_decide_eq_true h204
         iterate 3 refine Xk rfl rfl rfl h204 rfl ?_
         refine Xe rfl rfl rfl h201 ?_
         refine Xr (v := .bool true) rfl h204 rfl rfl ?_
         refine Xe rfl rfl rfl rfl ?_
         refine Xr (v := .bool true) rfl h201 rfl rfl ?_
         refine Xl (v := .bool true) rfl rfl rfl rfl ?_
         exact Xa ⟨⟨e165, e166, (congrArg Value.bool (by first | (simp only [h148, h149, h150, h151, h152, h153, h154, h155, h156, h157, h178, h180, h182, h199, h201, h202, h204, b0, b1, b2, b3, b4, b5, b6, b7, b8, b9]; done) | simp [h148, h149, h150, h151, h152, h153, h154, h155, h156, h157, h178, h180, h182, h199, h201, h202, h204]))⟩, hg176⟩
        ·
         have h206 := of_decide_eq_false h204
         refine Xe rfl rfl rfl h204 ?_
         refine Xd (o' := 0) Yt e165 rfl rfl ?_
         refine Xe rfl rfl rfl h204 ?_
         refine Xi (v := .int .i64 m.t.kind) X3 rfl (k181.cell rfl) rfl ?_
         refine Xe rfl rfl rfl h204 ?_
         refine X4 (q := decide (m.t.kind = 5)) rfl rfl rfl rfl ?_
         refine Xe rfl rfl rfl h201 ?_
         refine Xl (v := .bool (decide (m.t.kind = 5))) rfl h204 rfl rfl ?_
         refine Xe rfl rfl rfl rfl ?_
         refine Xr (v := .bool (decide (m.t.kind = 5))) rfl h201 rfl rfl ?_
         refine Xl (v := .bool (decide (m.t.kind = 5))) rfl rfl rfl rfl ?_
         exact Xa ⟨⟨e165, e166, (congrArg Value.bool (by first | (simp only [h148, h149, h150, h151, h152, h153, h154, h155, h156, h157, h178, h180, h182, h199, h201, h202, h204, b0, b1, b2, b3, b4, b5, b6, b7, b8, b9]; done) | simp [h148, h149, h150, h151, h152, h153, h154, h155, h156, h157, h178, h180, h182, h199, h201, h202, h204]))⟩, hg176⟩
       ·
        have h207 := Zh h201
        have h208 := of_decide_eq_true h207
        iterate 4 refine Xk rfl rfl rfl h201 rfl ?_
        iterate 3 refine Yg rfl rfl rfl rfl ?_
        refine Xk rfl rfl rfl h201 rfl ?_
        refine Xe rfl rfl rfl rfl ?_
        refine Xl (v := .bool false) rfl h201 rfl rfl ?_
        refine Xl (v := .bool false) rfl rfl rfl rfl ?_
        exact Xa ⟨⟨e165, e166, (congrArg Value.bool (by first | (simp only [h148, h149, h150, h151, h152, h153, h154, h155, h156, h157, h178, h180, h182, h199, h201, h207, b0, b1, b2, b3, b4, b5, b6, b7, b8, b9]; done) | simp [h148, h149, h150, h151, h152, h153, h154, h155, h156, h157, h178, h180, h182, h199, h201, h207]))⟩, hg176⟩
    ·
     rintro f209 w210 ⟨⟨e211, e212, e213⟩, hg214⟩
     have hb215 := low0 hb147 hg214
     refine Xw e213 (fun h216 => ?_) (fun h216 => ?_)
     ·
      refine Xb ?_
      refine Xh (v := .bool false) rfl rfl ?_
      refine Xa ?_
      refine Xs ?_
      refine Yi ?_
      refine ⟨.bool false, Yq rfl rfl, ?_, hb215⟩
      exact congrArg Value.bool (Be h216)
     ·
      have h217 := Qx h216
      have h218 := Qx h217
      have h219 := Zh h218
      have h220 := Qy h217
      have h221 := Qy h216
      refine Xy ?_
      refine Xv ?_
      refine Xt ?_
      refine Xb ?_
      refine Xh (v := .int .i64 0) rfl rfl ?_
      refine Xa ?_
      refine Ye ?_
      have k222 := (k159.grown0 hg214)
      refine Zd (fun mm f' w' => ∃ (k : Nat), mm = m.t.queue.length - k ∧ k ≤ m.t.queue.length ∧ ((m.t.queue.take k).all numQ) = true ∧ f' 4 = .int .i64 (k : Int) ∧ f' 1 = .pointer (some ⟨B101, 0, none⟩) ∧ w.grownBy w' none ∧ Blk w' B101 43 #[.int .i64 m.t.kind, .int .i64 m.t.lab.s, .int .i64 m.t.lab.v, .int .i64 m.t.ve, .int .i64 m.t.num, .slice m.sa m.t.slots.length m.sc, .slice m.qa m.t.queue.length m.qc, .int .i64 m.t.to]) (m.t.queue.length - 0) ⟨0, rfl, (Nat.zero_le _), rfl, rfl, e211, hb215, k222⟩ ?_
      rintro mm f223 w224 ⟨k, hm226, hk, ha, e227, e228, hb225, k229⟩
      refine Xt ?_
      refine Xb ?_
      refine Xc (v := .int .i64 (k : Int)) e227 rfl ?_
      refine Xd (o' := 6) Qw e228 rfl rfl ?_
      refine Xi (v := .slice m.qa m.t.queue.length m.qc) Jo rfl (k229.cell rfl) rfl ?_
      refine Ym (by kernel_rfl) rfl rfl ?_
      refine Y4 (q := decide ((k : Int) < (m.t.queue.length : Int))) rfl rfl rfl rfl ?_
      refine Xa ?_
      refine Xw rfl (fun h230 => ?_) (fun h230 => ?_)
      ·
       have h231 := of_decide_eq_true h230
       refine Xy ?_
       refine Xv ?_
       refine Xt ?_
       refine Ye ?_
       refine Xb ?_
       refine Xd (o' := 6) Qw e228 rfl rfl ?_
       refine Xi (v := .slice m.qa m.t.queue.length m.qc) Jo rfl (k229.cell rfl) rfl ?_
       refine Xc (v := .int .i64 (k : Int)) e227 rfl ?_
       obtain ⟨x232, hx233⟩ := Zf (l := m.t.queue) (i := k) (by omega)
       obtain ⟨b234, q235, o236, ha237, ho238, hr239⟩ := SlAt.at hq (Yn hx233)
       refine Yd Qa rfl rfl ha237 ho238 (by omega) (by omega) rfl ?_
       refine Xi (v := .int .i64 x232) X3 rfl ((Yo hr239 hb225) 0 _ rfl) rfl ?_
       refine Xn (vs := [.int .i64 x232, .int .i64 0, .int .i64 99]) Q4 (Xg rfl (Xg rfl (Xg rfl Xm))) rfl (Qk x232 0 99 _) ?_
       rintro _ w240 ⟨rfl, hg241⟩
       have hb242 := low0 hb225 hg241
       refine Yk (b' := !inR x232 0 99) rfl rfl rfl ?_
       refine Xa ?_
       refine Xw rfl (fun h243 => ?_) (fun h243 => ?_)
       ·
        have h244 := Zn h243
        refine Xb ?_
        refine Xh (v := .bool false) rfl rfl ?_
        refine Xa ?_
        refine Xs ?_
        refine Y6 ?_
        refine Yi ?_
        refine Yi ?_
        refine Y6 ?_
        refine Yi ?_
        refine ⟨.bool false, Yq rfl rfl, ?_, hb242⟩
        exact congrArg Value.bool (Bg hx233 h244)
       ·
        have h245 := Zh h243
        refine Xy ?_
        refine Yy ?_
        refine Xv ?_
        refine X1 ?_
        refine Xc (v := .int .i64 (k : Int)) e227 rfl ?_
        refine Yx (c := (k : Int) + 1) rfl rfl (by omega) (by omega) (by omega) rfl ?_
        refine Xh (v := .int .i64 ((k : Int) + 1)) rfl rfl ?_
        refine Xa ?_
        refine Xv ?_
        have k246 := (k229.grown0 hg241)
        exact ⟨m.t.queue.length - (k + 1), by omega, (k + 1), rfl, (by omega), (Qj (p := numQ) ha hx233 h245), rfl, e228, hb242, k246⟩
      ·
       have h247 := of_decide_eq_false h230
       refine Y5 ?_
       refine Y2 ?_
       refine Y2 ?_
       refine Z1 ?_
       refine Xv ?_
       refine Xt ?_
       refine Xb ?_
       refine Xh (v := .int .i64 0) rfl rfl ?_
       refine Xa ?_
       refine Ye ?_
       refine Zd (fun mm f' w' => ∃ (j : Nat), mm = m.t.slots.length - j ∧ j ≤ m.t.slots.length ∧ ((m.t.slots.take j).all rightOk) = true ∧ f' 5 = .int .i64 (j : Int) ∧ f' 1 = .pointer (some ⟨B101, 0, none⟩) ∧ w.grownBy w' none ∧ Blk w' B101 43 #[.int .i64 m.t.kind, .int .i64 m.t.lab.s, .int .i64 m.t.lab.v, .int .i64 m.t.ve, .int .i64 m.t.num, .slice m.sa m.t.slots.length m.sc, .slice m.qa m.t.queue.length m.qc, .int .i64 m.t.to]) (m.t.slots.length - 0) ⟨0, rfl, (Nat.zero_le _), rfl, rfl, e228, hb225, k229⟩ ?_
       rintro mm f248 w249 ⟨j, hm251, hj, hb, e252, e253, hb250, k254⟩
       refine Xt ?_
       refine Xb ?_
       refine Xc (v := .int .i64 (j : Int)) e252 rfl ?_
       refine Xd (o' := 5) Zt e253 rfl rfl ?_
       refine Xi (v := .slice m.sa m.t.slots.length m.sc) Qq rfl (k254.cell rfl) rfl ?_
       refine Ym (by kernel_rfl) rfl rfl ?_
       refine Y4 (q := decide ((j : Int) < (m.t.slots.length : Int))) rfl rfl rfl rfl ?_
       refine Xa ?_
       refine Xw rfl (fun h255 => ?_) (fun h255 => ?_)
       ·
        have h256 := of_decide_eq_true h255
        refine Xy ?_
        refine Xv ?_
        refine Xt ?_
        refine Ye ?_
        refine Xb ?_
        refine Xd (o' := 5) Zt e253 rfl rfl ?_
        refine Xi (v := .slice m.sa m.t.slots.length m.sc) Qq rfl (k254.cell rfl) rfl ?_
        refine Xc (v := .int .i64 (j : Int)) e252 rfl ?_
        obtain ⟨x257, hx258⟩ := Zf (l := m.t.slots) (i := j) (by omega)
        obtain ⟨b259, q260, o261, ha262, ho263, hr264⟩ := SlAt.at hs (Yn hx258)
        refine Yd Ka rfl rfl ha262 ho263 (by omega) (by omega) rfl ?_
        refine Xu (vs := [.int .i64 x257.th, .int .i64 x257.ve, .bool x257.rd, .bool x257.wr, .bool x257.wk]) Y8 rfl rfl (Za (Yo hr264 hb250) 0 5 rfl) rfl ?_
        refine Xn (vs := [.agg #[.int .i64 x257.th, .int .i64 x257.ve, .bool x257.rd, .bool x257.wr, .bool x257.wk]]) Tf (Xg rfl Xm) rfl (U8 x257 _) ?_
        rintro _ w265 ⟨rfl, hg266⟩
        have hb267 := low0 hb250 hg266
        refine Yk (b' := !rightOk x257) rfl rfl rfl ?_
        refine Xa ?_
        refine Xw rfl (fun h268 => ?_) (fun h268 => ?_)
        ·
         have h269 := Zn h268
         refine Xb ?_
         refine Xh (v := .bool false) rfl rfl ?_
         refine Xa ?_
         refine Xs ?_
         refine Y6 ?_
         refine Yi ?_
         refine Yi ?_
         refine Y6 ?_
         refine Yi ?_
         refine ⟨.bool false, Yq rfl rfl, ?_, hb267⟩
         exact congrArg Value.bool (Bn hx258 h269)
        ·
         have h270 := Zh h268
         refine Xy ?_
         refine Yy ?_
         refine Xv ?_
         refine X1 ?_
         refine Xc (v := .int .i64 (j : Int)) e252 rfl ?_
         refine Yx (c := (j : Int) + 1) rfl rfl (by omega) (by omega) (by omega) rfl ?_
         refine Xh (v := .int .i64 ((j : Int) + 1)) rfl rfl ?_
         refine Xa ?_
         refine Xv ?_
         have k271 := (k254.grown0 hg266)
         exact ⟨m.t.slots.length - (j + 1), by omega, (j + 1), rfl, (by omega), (Qj (p := rightOk) hb hx258 h270), rfl, e253, hb267, k271⟩
       ·
        have h272 := of_decide_eq_false h255
        refine Y5 ?_
        refine Y2 ?_
        refine Y2 ?_
        refine Z1 ?_
        refine Xv ?_
        refine Xt ?_
        refine X2 (fun f' w' => (f' 1 = .pointer (some ⟨B101, 0, none⟩) ∧ f' 114 = .bool ((((decide (m.t.kind = 2)) || (decide (m.t.kind = 3))) && (!(decide ((m.t.slots.length : Int) = 4)))) || ((!((decide (m.t.kind = 2)) || (decide (m.t.kind = 3)))) && (!(decide ((m.t.slots.length : Int) = 0)))))) ∧ w249.grownBy w' none) ?_ ?_
        ·
         refine Xd (o' := 0) Yt e253 rfl rfl ?_
         refine Xi (v := .int .i64 m.t.kind) X3 rfl (k254.cell rfl) rfl ?_
         refine Xn (vs := [.int .i64 m.t.kind]) Uf (Xg rfl Xm) rfl (Jd m.t.kind _) ?_
         rintro _ w284 ⟨rfl, hg285⟩
         have hb286 := low0 hb250 hg285
         refine Xc (v := .bool ((decide (m.t.kind = 2)) || (decide (m.t.kind = 3)))) rfl rfl ?_
         rcases Yb ((decide (m.t.kind = 2)) || (decide (m.t.kind = 3))) with h287 | h287
         ·
          refine Xe rfl rfl rfl h287 ?_
          refine Xd (o' := 5) Zt e253 rfl rfl ?_
          refine Xe rfl rfl rfl h287 ?_
          have k288 := (k254.grown0 hg285)
          refine Xi (v := .slice m.sa m.t.slots.length m.sc) Qq rfl (k288.cell rfl) rfl ?_
          refine Xe rfl rfl rfl h287 ?_
          refine Ym (by kernel_rfl) rfl rfl ?_
          refine Xe rfl rfl rfl h287 ?_
          refine Y7 (q := !(decide ((m.t.slots.length : Int) = 4))) rfl rfl rfl rfl ?_
          refine Xr (v := .bool (!(decide ((m.t.slots.length : Int) = 4)))) rfl h287 rfl rfl ?_
          refine Xc (v := .bool (!(decide ((m.t.slots.length : Int) = 4)))) rfl rfl ?_
          rcases Yb (!(decide ((m.t.slots.length : Int) = 4))) with h289 | h289
          ·
           have h290 := Zn h289
           have h291 := of_decide_eq_false h290
           iterate 5 refine Xk rfl rfl rfl h289 rfl ?_
           iterate 4 refine Yg rfl rfl rfl rfl ?_
           refine Xk rfl rfl rfl h289 rfl ?_
           refine Xr (v := .bool true) rfl h289 rfl rfl ?_
           exact Xa ⟨⟨e253, (congrArg Value.bool (by first | (simp only [h148, h149, h150, h151, h152, h153, h154, h155, h156, h157, h216, h217, h218, h219, h220, h221, h230, h255, h287, h289, h290, b0, b1, b2, b3, b4, b5, b6, b7, b8, b9]; done) | simp [h148, h149, h150, h151, h152, h153, h154, h155, h156, h157, h216, h217, h218, h219, h220, h221, h230, h255, h287, h289, h290]))⟩, hg285⟩
          ·
           have h292 := Zh h289
           have h293 := of_decide_eq_true h292
           refine Xe rfl rfl rfl h289 ?_
           refine Xd (o' := 0) Yt e253 rfl rfl ?_
           refine Xe rfl rfl rfl h289 ?_
           refine Xi (v := .int .i64 m.t.kind) X3 rfl (k288.cell rfl) rfl ?_
           refine Xe rfl rfl rfl h289 ?_
           refine Xn (vs := [.int .i64 m.t.kind]) Uf (Xg rfl Xm) rfl (Jd m.t.kind _) ?_
           rintro _ w294 ⟨rfl, hg295⟩
           have hb296 := low0 hb286 hg295
           refine Xe rfl rfl rfl h289 ?_
           refine Yk (b' := !((decide (m.t.kind = 2)) || (decide (m.t.kind = 3)))) rfl rfl rfl ?_
           refine Xe rfl rfl rfl h289 ?_
           refine Xc (v := .bool (!((decide (m.t.kind = 2)) || (decide (m.t.kind = 3))))) rfl rfl ?_
           iterate 4 refine Xk rfl rfl rfl (Jp h287) rfl ?_
           refine Xe rfl rfl rfl h289 ?_
           refine Xl (v := .bool false) rfl (Jp h287) rfl rfl ?_
           refine Xl (v := .bool false) rfl h289 rfl rfl ?_
           exact Xa ⟨⟨e253, (congrArg Value.bool (by first | (simp only [h148, h149, h150, h151, h152, h153, h154, h155, h156, h157, h216, h217, h218, h219, h220, h221, h230, h255, h287, h289, h292, b0, b1, b2, b3, b4, b5, b6, b7, b8, b9]; done) | simp [h148, h149, h150, h151, h152, h153, h154, h155, h156, h157, h216, h217, h218, h219, h220, h221, h230, h255, h287, h289, h292]))⟩, (grown_trans hg285 hg295)⟩
         ·
          have h297 := Qx h287
          have h298 := of_decide_eq_false h297
          have h299 := Qy h287
          have h300 := of_decide_eq_false h299
          iterate 4 refine Xk rfl rfl rfl h287 rfl ?_
          refine Xl (v := .bool false) rfl h287 rfl rfl ?_
          refine Xc (v := .bool false) rfl rfl ?_
          refine Xe rfl rfl rfl rfl ?_
          refine Xd (o' := 0) Yt e253 rfl rfl ?_
          refine Xe rfl rfl rfl rfl ?_
          have k301 := (k254.grown0 hg285)
          refine Xi (v := .int .i64 m.t.kind) X3 rfl (k301.cell rfl) rfl ?_
          refine Xe rfl rfl rfl rfl ?_
          refine Xn (vs := [.int .i64 m.t.kind]) Uf (Xg rfl Xm) rfl (Jd m.t.kind _) ?_
          rintro _ w302 ⟨rfl, hg303⟩
          have hb304 := low0 hb286 hg303
          refine Xe rfl rfl rfl rfl ?_
          refine Yk (b' := !((decide (m.t.kind = 2)) || (decide (m.t.kind = 3)))) rfl rfl rfl ?_
          refine Xe rfl rfl rfl rfl ?_
          refine Xc (v := .bool (!((decide (m.t.kind = 2)) || (decide (m.t.kind = 3))))) rfl rfl ?_
          refine Xe rfl rfl rfl (Qc h287) ?_
          refine Xd (o' := 5) Zt e253 rfl rfl ?_
          refine Xe rfl rfl rfl (Qc h287) ?_
          have k305 := (k301.grown0 hg303)
          refine Xi (v := .slice m.sa m.t.slots.length m.sc) Qq rfl (k305.cell rfl) rfl ?_
          refine Xe rfl rfl rfl (Qc h287) ?_
          refine Ym (by kernel_rfl) rfl rfl ?_
          refine Xe rfl rfl rfl (Qc h287) ?_
          refine Y7 (q := !(decide ((m.t.slots.length : Int) = 0))) rfl rfl rfl rfl ?_
          refine Xe rfl rfl rfl rfl ?_
          refine Xr (v := .bool (!(decide ((m.t.slots.length : Int) = 0)))) rfl (Qc h287) rfl rfl ?_
          refine Xl (v := .bool (!(decide ((m.t.slots.length : Int) = 0)))) rfl rfl rfl rfl ?_
          exact Xa ⟨⟨e253, (congrArg Value.bool (by first | (simp only [h148, h149, h150, h151, h152, h153, h154, h155, h156, h157, h216, h217, h218, h219, h220, h221, h230, h255, h287, h297, h299, b0, b1, b2, b3, b4, b5, b6, b7, b8, b9]; done) | simp [h148, h149, h150, h151, h152, h153, h154, h155, h156, h157, h216, h217, h218, h219, h220, h221, h230, h255, h287, h297, h299]))⟩, (grown_trans hg285 hg303)⟩
        ·
         rintro f306 w307 ⟨⟨e308, e309⟩, hg310⟩
         have hb311 := low0 hb250 hg310
         refine Xw e309 (fun h312 => ?_) (fun h312 => ?_)
         ·
          refine Xb ?_
          refine Xh (v := .bool false) rfl rfl ?_
          refine Xa ?_
          refine Xs ?_
          refine Yi ?_
          refine ⟨.bool false, Yq rfl rfl, ?_, hb311⟩
          exact congrArg Value.bool (Bl h312)
         ·
          have h313 := Qx h312
          have h314 := Qy h312
          refine Xy ?_
          refine Xv ?_
          refine X2 (fun f' w' => (f' 2 = .bool (((decide (m.t.kind = 4)) || (decide ((m.t.queue.length : Int) = 0))) && (((decide (m.t.kind = 5)) && inR m.t.to 1 8) || ((!(decide (m.t.kind = 5))) && (decide (m.t.to = 0)))))) ∧ w307.grownBy w' none) ?_ ?_
          ·
           refine Xd (o' := 0) Yt e308 rfl rfl ?_
           have k321 := (k254.grown0 hg310)
           refine Xi (v := .int .i64 m.t.kind) X3 rfl (k321.cell rfl) rfl ?_
           refine X4 (q := decide (m.t.kind = 4)) rfl rfl rfl rfl ?_
           refine Xc (v := .bool (decide (m.t.kind = 4))) rfl rfl ?_
           rcases Yb (decide (m.t.kind = 4)) with h322 | h322
           ·
            have h323 := of_decide_eq_true h322
            iterate 4 refine Xk rfl rfl rfl h322 rfl ?_
            refine Xr (v := .bool true) rfl h322 rfl rfl ?_
            refine Xc (v := .bool true) rfl rfl ?_
            refine Xe rfl rfl rfl rfl ?_
            refine Xd (o' := 0) Yt e308 rfl rfl ?_
            refine Xe rfl rfl rfl rfl ?_
            refine Xi (v := .int .i64 m.t.kind) X3 rfl (k321.cell rfl) rfl ?_
            refine Xe rfl rfl rfl rfl ?_
            refine X4 (q := decide (m.t.kind = 5)) rfl rfl rfl rfl ?_
            refine Xe rfl rfl rfl rfl ?_
            refine Xc (v := .bool (decide (m.t.kind = 5))) rfl rfl ?_
            rcases Yb (decide (m.t.kind = 5)) with h324 | h324
            ·
             have h325 := of_decide_eq_true h324
             refine Xe rfl rfl rfl h324 ?_
             refine Xd (o' := 7) Q6 e308 rfl rfl ?_
             refine Xe rfl rfl rfl h324 ?_
             refine Xi (v := .int .i64 m.t.to) X3 rfl (k321.cell rfl) rfl ?_
             refine Xe rfl rfl rfl h324 ?_
             refine Xn (vs := [.int .i64 m.t.to, .int .i64 1, .int .i64 8]) Q4 (Xg rfl (Xg rfl (Xg rfl Xm))) rfl (Qk m.t.to 1 8 _) ?_
             rintro _ w326 ⟨rfl, hg327⟩
             have hb328 := low0 hb311 hg327
             refine Xe rfl rfl rfl rfl ?_
             refine Xr (v := .bool (inR m.t.to 1 8)) rfl h324 rfl rfl ?_
             refine Xe rfl rfl rfl rfl ?_
             refine Xc (v := .bool (inR m.t.to 1 8)) rfl rfl ?_
             rcases Yb (inR m.t.to 1 8) with h329 | h329
             ·
              iterate 4 refine Xk rfl rfl rfl h329 rfl ?_
              iterate 3 refine Yg rfl rfl rfl rfl ?_
              refine Xk rfl rfl rfl h329 rfl ?_
              refine Xe rfl rfl rfl rfl ?_
              refine Xr (v := .bool true) rfl h329 rfl rfl ?_
              refine Xr (v := .bool true) rfl rfl rfl rfl ?_
              refine Xh (v := .bool true) rfl rfl ?_
              exact Xa ⟨(congrArg Value.bool (by first | (simp only [h148, h149, h150, h151, h152, h153, h154, h155, h156, h157, h216, h217, h218, h219, h220, h221, h230, h255, h312, h313, h314, h322, h324, h329, b0, b1, b2, b3, b4, b5, b6, b7, b8, b9]; done) | simp [h148, h149, h150, h151, h152, h153, h154, h155, h156, h157, h216, h217, h218, h219, h220, h221, h230, h255, h312, h313, h314, h322, h324, h329])), hg327⟩
             ·
              refine Xe rfl rfl rfl h329 ?_
              refine Xd (o' := 0) Yt e308 rfl rfl ?_
              refine Xe rfl rfl rfl h329 ?_
              have k330 := (k321.grown0 hg327)
              refine Xi (v := .int .i64 m.t.kind) X3 rfl (k330.cell rfl) rfl ?_
              refine Xe rfl rfl rfl h329 ?_
              refine Y7 (q := !(decide (m.t.kind = 5))) rfl rfl rfl rfl ?_
              refine Xe rfl rfl rfl h329 ?_
              refine Xc (v := .bool (!(decide (m.t.kind = 5)))) rfl rfl ?_
              iterate 3 refine Xk rfl rfl rfl (Jp h324) rfl ?_
              refine Xe rfl rfl rfl h329 ?_
              refine Xl (v := .bool false) rfl (Jp h324) rfl rfl ?_
              refine Xe rfl rfl rfl rfl ?_
              refine Xl (v := .bool false) rfl h329 rfl rfl ?_
              refine Xr (v := .bool false) rfl rfl rfl rfl ?_
              refine Xh (v := .bool false) rfl rfl ?_
              exact Xa ⟨(congrArg Value.bool (by first | (simp only [h148, h149, h150, h151, h152, h153, h154, h155, h156, h157, h216, h217, h218, h219, h220, h221, h230, h255, h312, h313, h314, h322, h324, h329, b0, b1, b2, b3, b4, b5, b6, b7, b8, b9]; done) | simp [h148, h149, h150, h151, h152, h153, h154, h155, h156, h157, h216, h217, h218, h219, h220, h221, h230, h255, h312, h313, h314, h322, h324, h329])), hg327⟩
            ·
             have h331 := of_decide_eq_false h324
             iterate 3 refine Xk rfl rfl rfl h324 rfl ?_
             refine Xe rfl rfl rfl rfl ?_
             refine Xl (v := .bool false) rfl h324 rfl rfl ?_
             refine Xe rfl rfl rfl rfl ?_
             refine Xc (v := .bool false) rfl rfl ?_
             refine Xe rfl rfl rfl rfl ?_
             refine Xd (o' := 0) Yt e308 rfl rfl ?_
             refine Xe rfl rfl rfl rfl ?_
             refine Xi (v := .int .i64 m.t.kind) X3 rfl (k321.cell rfl) rfl ?_
             refine Xe rfl rfl rfl rfl ?_
             refine Y7 (q := !(decide (m.t.kind = 5))) rfl rfl rfl rfl ?_
             refine Xe rfl rfl rfl rfl ?_
             refine Xc (v := .bool (!(decide (m.t.kind = 5)))) rfl rfl ?_
             refine Xe rfl rfl rfl (Qc h324) ?_
             refine Xd (o' := 7) Q6 e308 rfl rfl ?_
             refine Xe rfl rfl rfl (Qc h324) ?_
             refine Xi (v := .int .i64 m.t.to) X3 rfl (k321.cell rfl) rfl ?_
             refine Xe rfl rfl rfl (Qc h324) ?_
             refine X4 (q := decide (m.t.to = 0)) rfl rfl rfl rfl ?_
             refine Xe rfl rfl rfl rfl ?_
             refine Xr (v := .bool (decide (m.t.to = 0))) rfl (Qc h324) rfl rfl ?_
             refine Xe rfl rfl rfl rfl ?_
             refine Xl (v := .bool (decide (m.t.to = 0))) rfl rfl rfl rfl ?_
             refine Xr (v := .bool (decide (m.t.to = 0))) rfl rfl rfl rfl ?_
             refine Xh (v := .bool (decide (m.t.to = 0))) rfl rfl ?_
             exact Xa ⟨(congrArg Value.bool (by first | (simp only [h148, h149, h150, h151, h152, h153, h154, h155, h156, h157, h216, h217, h218, h219, h220, h221, h230, h255, h312, h313, h314, h322, h324, b0, b1, b2, b3, b4, b5, b6, b7, b8, b9]; done) | simp [h148, h149, h150, h151, h152, h153, h154, h155, h156, h157, h216, h217, h218, h219, h220, h221, h230, h255, h312, h313, h314, h322, h324])), (World.grownBy.refl _ _)⟩
           ·
            have h332 := of_decide_eq_false h322
            refine Xe rfl rfl rfl h322 ?_
            refine Xd (o' := 6) Qw e308 rfl rfl ?_
            refine Xe rfl rfl rfl h322 ?_
            refine Xi (v := .slice m.qa m.t.queue.length m.qc) Jo rfl (k321.cell rfl) rfl ?_
            refine Xe rfl rfl rfl h322 ?_
            refine Ym (by kernel_rfl) rfl rfl ?_
            refine Xe rfl rfl rfl h322 ?_
            refine X4 (q := decide ((m.t.queue.length : Int) = 0)) rfl rfl rfl rfl ?_
            refine Xl (v := .bool (decide ((m.t.queue.length : Int) = 0))) rfl h322 rfl rfl ?_
            refine Xc (v := .bool (decide ((m.t.queue.length : Int) = 0))) rfl rfl ?_
            rcases Yb (decide ((m.t.queue.length : Int) = 0)) with h333 | h333
            ·
             have h334 := of_decide_eq_true h333
             refine Xe rfl rfl rfl h333 ?_
             refine Xd (o' := 0) Yt e308 rfl rfl ?_
             refine Xe rfl rfl rfl h333 ?_
             refine Xi (v := .int .i64 m.t.kind) X3 rfl (k321.cell rfl) rfl ?_
             refine Xe rfl rfl rfl h333 ?_
             refine X4 (q := decide (m.t.kind = 5)) rfl rfl rfl rfl ?_
             refine Xe rfl rfl rfl h333 ?_
             refine Xc (v := .bool (decide (m.t.kind = 5))) rfl rfl ?_
             rcases Yb (decide (m.t.kind = 5)) with h335 | h335
             ·
              have h336 := of_decide_eq_true h335
              refine Xe rfl rfl rfl h335 ?_
              refine Xd (o' := 7) Q6 e308 rfl rfl ?_
              refine Xe rfl rfl rfl h335 ?_
              refine Xi (v := .int .i64 m.t.to) X3 rfl (k321.cell rfl) rfl ?_
              refine Xe rfl rfl rfl h335 ?_
              refine Xn (vs := [.int .i64 m.t.to, .int .i64 1, .int .i64 8]) Q4 (Xg rfl (Xg rfl (Xg rfl Xm))) rfl (Qk m.t.to 1 8 _) ?_
              rintro _ w337 ⟨rfl, hg338⟩
              have hb339 := low0 hb311 hg338
              refine Xe rfl rfl rfl h333 ?_
              refine Xr (v := .bool (inR m.t.to 1 8)) rfl h335 rfl rfl ?_
              refine Xe rfl rfl rfl h333 ?_
              refine Xc (v := .bool (inR m.t.to 1 8)) rfl rfl ?_
              rcases Yb (inR m.t.to 1 8) with h340 | h340
              ·
               iterate 4 refine Xk rfl rfl rfl h340 rfl ?_
               iterate 3 refine Yg rfl rfl rfl rfl ?_
               refine Xk rfl rfl rfl h340 rfl ?_
               refine Xe rfl rfl rfl h333 ?_
               refine Xr (v := .bool true) rfl h340 rfl rfl ?_
               refine Xr (v := .bool true) rfl h333 rfl rfl ?_
               refine Xh (v := .bool true) rfl rfl ?_
               exact Xa ⟨(congrArg Value.bool (by first | (simp only [h148, h149, h150, h151, h152, h153, h154, h155, h156, h157, h216, h217, h218, h219, h220, h221, h230, h255, h312, h313, h314, h322, h333, h335, h340, b0, b1, b2, b3, b4, b5, b6, b7, b8, b9]; done) | simp [h148, h149, h150, h151, h152, h153, h154, h155, h156, h157, h216, h217, h218, h219, h220, h221, h230, h255, h312, h313, h314, h322, h333, h335, h340])), hg338⟩
              ·
               refine Xe rfl rfl rfl h340 ?_
               refine Xd (o' := 0) Yt e308 rfl rfl ?_
               refine Xe rfl rfl rfl h340 ?_
               have k341 := (k321.grown0 hg338)
               refine Xi (v := .int .i64 m.t.kind) X3 rfl (k341.cell rfl) rfl ?_
               refine Xe rfl rfl rfl h340 ?_
               refine Y7 (q := !(decide (m.t.kind = 5))) rfl rfl rfl rfl ?_
               refine Xe rfl rfl rfl h340 ?_
               refine Xc (v := .bool (!(decide (m.t.kind = 5)))) rfl rfl ?_
               iterate 3 refine Xk rfl rfl rfl (Jp h335) rfl ?_
               refine Xe rfl rfl rfl h340 ?_
               refine Xl (v := .bool false) rfl (Jp h335) rfl rfl ?_
               refine Xe rfl rfl rfl h333 ?_
               refine Xl (v := .bool false) rfl h340 rfl rfl ?_
               refine Xr (v := .bool false) rfl h333 rfl rfl ?_
               refine Xh (v := .bool false) rfl rfl ?_
               exact Xa ⟨(congrArg Value.bool (by first | (simp only [h148, h149, h150, h151, h152, h153, h154, h155, h156, h157, h216, h217, h218, h219, h220, h221, h230, h255, h312, h313, h314, h322, h333, h335, h340, b0, b1, b2, b3, b4, b5, b6, b7, b8, b9]; done) | simp [h148, h149, h150, h151, h152, h153, h154, h155, h156, h157, h216, h217, h218, h219, h220, h221, h230, h255, h312, h313, h314, h322, h333, h335, h340])), hg338⟩
             ·
              have h342 := of_decide_eq_false h335
              iterate 3 refine Xk rfl rfl rfl h335 rfl ?_
              refine Xe rfl rfl rfl h333 ?_
              refine Xl (v := .bool false) rfl h335 rfl rfl ?_
              refine Xe rfl rfl rfl h333 ?_
              refine Xc (v := .bool false) rfl rfl ?_
              refine Xe rfl rfl rfl rfl ?_
              refine Xd (o' := 0) Yt e308 rfl rfl ?_
              refine Xe rfl rfl rfl rfl ?_
              refine Xi (v := .int .i64 m.t.kind) X3 rfl (k321.cell rfl) rfl ?_
              refine Xe rfl rfl rfl rfl ?_
              refine Y7 (q := !(decide (m.t.kind = 5))) rfl rfl rfl rfl ?_
              refine Xe rfl rfl rfl rfl ?_
              refine Xc (v := .bool (!(decide (m.t.kind = 5)))) rfl rfl ?_
              refine Xe rfl rfl rfl (Qc h335) ?_
              refine Xd (o' := 7) Q6 e308 rfl rfl ?_
              refine Xe rfl rfl rfl (Qc h335) ?_
              refine Xi (v := .int .i64 m.t.to) X3 rfl (k321.cell rfl) rfl ?_
              refine Xe rfl rfl rfl (Qc h335) ?_
              refine X4 (q := decide (m.t.to = 0)) rfl rfl rfl rfl ?_
              refine Xe rfl rfl rfl rfl ?_
              refine Xr (v := .bool (decide (m.t.to = 0))) rfl (Qc h335) rfl rfl ?_
              refine Xe rfl rfl rfl h333 ?_
              refine Xl (v := .bool (decide (m.t.to = 0))) rfl rfl rfl rfl ?_
              refine Xr (v := .bool (decide (m.t.to = 0))) rfl h333 rfl rfl ?_
              refine Xh (v := .bool (decide (m.t.to = 0))) rfl rfl ?_
              exact Xa ⟨(congrArg Value.bool (by first | (simp only [h148, h149, h150, h151, h152, h153, h154, h155, h156, h157, h216, h217, h218, h219, h220, h221, h230, h255, h312, h313, h314, h322, h333, h335, b0, b1, b2, b3, b4, b5, b6, b7, b8, b9]; done) | simp [h148, h149, h150, h151, h152, h153, h154, h155, h156, h157, h216, h217, h218, h219, h220, h221, h230, h255, h312, h313, h314, h322, h333, h335])), (World.grownBy.refl _ _)⟩
            ·
             have h343 := of_decide_eq_false h333
             iterate 4 refine Xk rfl rfl rfl h333 rfl ?_
             iterate 3 refine Yg rfl rfl rfl rfl ?_
             refine Xk rfl rfl rfl h333 rfl ?_
             refine Xk rfl rfl rfl h333 rfl ?_
             iterate 8 refine Yg rfl rfl rfl rfl ?_
             refine Xk rfl rfl rfl h333 rfl ?_
             refine Xl (v := .bool false) rfl h333 rfl rfl ?_
             refine Xh (v := .bool false) rfl rfl ?_
             exact Xa ⟨(congrArg Value.bool (by first | (simp only [h148, h149, h150, h151, h152, h153, h154, h155, h156, h157, h216, h217, h218, h219, h220, h221, h230, h255, h312, h313, h314, h322, h333, b0, b1, b2, b3, b4, b5, b6, b7, b8, b9]; done) | simp [h148, h149, h150, h151, h152, h153, h154, h155, h156, h157, h216, h217, h218, h219, h220, h221, h230, h255, h312, h313, h314, h322, h333])), (World.grownBy.refl _ _)⟩
          ·
           rintro f344 w345 ⟨e346, hg347⟩
           have hb348 := low0 hb311 hg347
           refine Xs ?_
           refine ⟨.bool (((decide (m.t.kind = 4)) || (decide ((m.t.queue.length : Int) = 0))) && (((decide (m.t.kind = 5)) && inR m.t.to 1 8) || ((!(decide (m.t.kind = 5))) && (decide (m.t.to = 0))))), Yq rfl e346, ?_, hb348⟩
           exact congrArg Value.bool (Bf h148 h216 (Qz (p := numQ) ha (by omega)) (Qz (p := rightOk) hb (by omega)) h312)
end Go.Proofs.YtfoplmgoiblkgaaDoor
end
section
namespace Go.Proofs.YtfoplmgoiblkgaaDoor
open Go.RowKit Go.Dw
set_option maxRecDepth 100000
set_option maxHeartbeats 4000000
set_option linter.unusedSimpArgs false
set_option linter.unusedVariables false
theorem Sk : fieldOff Tryd.prog 52 0 = some 0 := by kernel_rfl
theorem R3 : fieldOff Tryd.prog 52 1 = some 1 := by kernel_rfl
theorem Hb : goFn Tryd.prog 39 = true := by kernel_rfl
theorem Ml : goFn Tryd.prog 59 = true := by kernel_rfl
theorem M3 : goFn Tryd.prog 60 = true := by kernel_rfl
theorem M4 : goFn Tryd.prog 61 = true := by kernel_rfl
theorem Lx : zeroTy Tryd.prog 39 = some (.agg #[.int .i64 0, .int .i64 0]) := by kernel_rfl
theorem Jn : zeroTy Tryd.prog 43 = some (.agg #[.int .i64 0, .int .i64 0, .int .i64 0, .int .i64 0, .int .i64 0, .slice none 0 0, .slice none 0 0, .int .i64 0]) := by kernel_rfl
theorem W9 (k to : Int) (l : Lab) (hk : ((decide (k = 2)) || (decide (k = 3))) = true) (hok : newOk k l to = true) (w : World) : CallsR Tryd.prog 91 #[.int .i64 k, .agg #[.int .i64 l.s, .int .i64 l.v], .int .i64 to] w (fun v w' => ∃ (S sc Q qc : Nat), v = .tuple #[.agg #[.int .i64 k, .int .i64 l.s, .int .i64 l.v, .int .i64 0, .int .i64 0, .slice (some ⟨S, 0, none⟩) 4 sc, .slice (some ⟨Q, 0, none⟩) 0 qc, .int .i64 to], .bool true] ∧ w.heap.size ≤ S ∧ Dw.Own w' S 37 5 sc 4 (zeros4.flatMap Rt.cells) ∧ w.heap.size ≤ Q ∧ Dw.Own w' Q 3 1 qc 0 (([] : List Int).flatMap icell) ∧ S ≠ Q ∧ w.grownBy w' none) := by
 refine X0 (n := 24) Tryd.func91 rfl Tryd.ntmps91 rfl ?_
 have hb0 := World.grownBy.refl w none
 have hlit : thingOk (⟨k, l, 0, 0, zeros4, [], to⟩ : Th) = true := (V6 hk).symm.trans hok
 refine Xb ?_
 refine Yu (v := .agg #[.int .i64 l.s, .int .i64 l.v]) (cs := #[.int .i64 l.s, .int .i64 l.v]) rfl rfl rfl ?_
 intro B101 w102 hN103
 have hlB101 := Yf hN103 hb0
 have hb104 := low0 hb0 hN103.grw
 refine Yj (cs := #[.int .i64 0, .int .i64 0, .int .i64 0, .int .i64 0, .int .i64 0, .slice none 0 0, .slice none 0 0, .int .i64 0]) Jn rfl rfl ?_
 intro B105 w106 hN107
 have hlB105 := Yf hN107 hb104
 have lt_B101_B105 := Xq hN107 (hN103.blk).lt
 have hb108 := low0 hb104 hN107.grw
 refine Xh (v := .bool false) rfl rfl ?_
 refine Xa ?_
 refine Xb ?_
 refine Xc (v := .int .i64 k) rfl rfl ?_
 have k109 := (hN103.blk.grown0 hN107.grw)
 refine Xu (vs := [.int .i64 l.s, .int .i64 l.v]) Qd rfl rfl (k109.rangeL 0 2 rfl) rfl ?_
 refine X7 (ps := []) (e := 37) (cs := (([] : List Rt).flatMap Rt.cells).toArray) X9 (fun _ => by kernel_rfl) rfl ?_
 intro B110 w111 hN112
 have hlB110 := Yf hN112 hb108
 have lt_B101_B110 := Xq hN112 (k109).lt
 have lt_B105_B110 := Xq hN112 (hN107.blk).lt
 have hb113 := low0 hb108 hN112.grw
 refine X7 (ps := []) (e := 3) (cs := (([] : List Int).flatMap icell).toArray) X9 (fun _ => by kernel_rfl) rfl ?_
 intro B114 w115 hN116
 have hlB114 := Yf hN116 hb113
 have k117 := (k109.grown0 hN112.grw)
 have lt_B101_B114 := Xq hN116 (k117).lt
 have k118 := (hN107.blk.grown0 hN112.grw)
 have lt_B105_B114 := Xq hN116 (k118).lt
 have lt_B110_B114 := Xq hN116 (hN112.blk).lt
 have hb119 := low0 hb113 hN116.grw
 refine Xc (v := .int .i64 to) rfl rfl ?_
 refine Yw (ps := [(0, .int .i64 k), (1, .agg #[.int .i64 l.s, .int .i64 l.v]), (4, .slice (some ⟨B110, 0, none⟩) 0 0), (5, .slice (some ⟨B114, 0, none⟩) 0 0), (6, .int .i64 to)]) (v := .agg #[.int .i64 k, .int .i64 l.s, .int .i64 l.v, .int .i64 0, .int .i64 0, .slice (some ⟨B110, 0, none⟩) 0 0, .slice (some ⟨B114, 0, none⟩) 0 0, .int .i64 to]) (Xp rfl (Xp rfl (Xp rfl (Xp rfl (Xp rfl X9))))) (by kernel_rfl) rfl ?_
 refine Yj (cs := #[.int .i64 0, .int .i64 0, .int .i64 0, .int .i64 0, .int .i64 0, .slice none 0 0, .slice none 0 0, .int .i64 0]) Jn rfl rfl ?_
 intro B120 w121 hN122
 have hlB120 := Yf hN122 hb119
 have k123 := (k117.grown0 hN116.grw)
 have lt_B101_B120 := Xq hN122 (k123).lt
 have k124 := (k118.grown0 hN116.grw)
 have lt_B105_B120 := Xq hN122 (k124).lt
 have k125 := (hN112.blk.grown0 hN116.grw)
 have lt_B110_B120 := Xq hN122 (k125).lt
 have lt_B114_B120 := Xq hN122 (hN116.blk).lt
 have hb126 := low0 hb119 hN122.grw
 refine Xz (vs := [.int .i64 k, .int .i64 l.s, .int .i64 l.v, .int .i64 0, .int .i64 0, .slice (some ⟨B110, 0, none⟩) 0 0, .slice (some ⟨B114, 0, none⟩) 0 0, .int .i64 to]) (cs' := #[.int .i64 k, .int .i64 l.s, .int .i64 l.v, .int .i64 0, .int .i64 0, .slice (some ⟨B110, 0, none⟩) 0 0, .slice (some ⟨B114, 0, none⟩) 0 0, .int .i64 to]) Y0 rfl rfl rfl (by simp [Value.oneCell']) hN122.blk (Nat.le_of_ble_eq_true rfl) rfl ?_
 intro w127 hS128
 have hb129 := low1 hb126 hS128.grw (by omega)
 refine Xa ?_
 refine Xt ?_
 refine Xb ?_
 refine Xc (v := .int .i64 k) rfl rfl ?_
 refine Xn (vs := [.int .i64 k]) Uf (Xg rfl Xm) rfl (Jd k _) ?_
 rintro _ w130 ⟨rfl, hg131⟩
 have hb132 := low0 hb129 hg131
 refine Xa ?_
 refine Zc rfl hk ?_
 refine X1 ?_
 refine Kz (g := Rt.cells) (z := Rt.zero) (c := 4) Rl rfl Zw (by omega) rfl rfl (by omega) (by omega) rfl ?_
 intro B133 w134 hN135
 have hlB133 := Yf hN135 hb132
 have k136 := (((k123.grown0 hN122.grw).grown hS128.grw (Xf (by omega))).grown0 hg131)
 have lt_B101_B133 := Xq hN135 (k136).lt
 have k137 := (((k124.grown0 hN122.grw).grown hS128.grw (Xf (by omega))).grown0 hg131)
 have lt_B105_B133 := Xq hN135 (k137).lt
 have k138 := (((k125.grown0 hN122.grw).grown hS128.grw (Xf (by omega))).grown0 hg131)
 have lt_B110_B133 := Xq hN135 (k138).lt
 have k139 := (((hN116.blk.grown0 hN122.grw).grown hS128.grw (Xf (by omega))).grown0 hg131)
 have lt_B114_B133 := Xq hN135 (k139).lt
 have k140 := (hS128.blk.grown0 hg131)
 have lt_B120_B133 := Xq hN135 (k140).lt
 have hb141 := low0 hb132 hN135.grw
 refine Xd (o' := 5) Zt rfl rfl rfl ?_
 have k142 := (k140.grown0 hN135.grw)
 refine Yc (v := .slice (some ⟨B133, 0, none⟩) 4 4) (cs' := #[.int .i64 k, .int .i64 l.s, .int .i64 l.v, .int .i64 0, .int .i64 0, .slice (some ⟨B133, 0, none⟩) 4 4, .slice (some ⟨B114, 0, none⟩) 0 0, .int .i64 to]) Qq rfl rfl rfl k142 (Nat.le_of_ble_eq_true rfl) rfl ?_
 intro w143 hS144
 have hb145 := low1 hb141 hS144.grw (by omega)
 refine Xa ?_
 refine Xv ?_
 refine Xt ?_
 refine Xb ?_
 refine Xu (vs := [.int .i64 k, .int .i64 l.s, .int .i64 l.v, .int .i64 0, .int .i64 0, .slice (some ⟨B133, 0, none⟩) 4 4, .slice (some ⟨B114, 0, none⟩) 0 0, .int .i64 to]) Y0 rfl rfl (hS144.blk.rangeL 0 8 rfl) rfl ?_
 have k146 := (hN135.blk.grown hS144.grw (Xf (by omega)))
 have k147 := ((k139.grown0 hN135.grw).grown hS144.grw (Xf (by omega)))
 refine Xn (vs := [.agg #[.int .i64 k, .int .i64 l.s, .int .i64 l.v, .int .i64 0, .int .i64 0, .slice (some ⟨B133, 0, none⟩) 4 4, .slice (some ⟨B114, 0, none⟩) 0 0, .int .i64 to]]) Hb (Xg rfl Xm) rfl (J4 (⟨⟨k, l, 0, 0, zeros4, [], to⟩, some ⟨B133, 0, none⟩, 4, some ⟨B114, 0, none⟩, 0⟩ : MTh) _ (Qf Zw k146) (Qf Ys k147) (by first | omega | exact Nat.le_of_ble_eq_true rfl | (simp only [List.length_nil, List.length_cons, List.length_append, List.length_replicate]; omega)) (by first | omega | exact Nat.le_of_ble_eq_true rfl | (simp only [List.length_nil, List.length_cons, List.length_append, List.length_replicate]; omega))) ?_
 rintro _ w148 ⟨rfl, hg149⟩
 have hb150 := low0 hb145 hg149
 refine Yk (b' := !thingOk (⟨k, l, 0, 0, zeros4, [], to⟩ : Th)) rfl rfl rfl ?_
 refine Xa ?_
 refine Zr rfl (Jp hlit) ?_
 refine Xy ?_
 refine Xv ?_
 refine Xb ?_
 have k151 := (hS144.blk.grown0 hg149)
 refine Xu (vs := [.int .i64 k, .int .i64 l.s, .int .i64 l.v, .int .i64 0, .int .i64 0, .slice (some ⟨B133, 0, none⟩) 4 4, .slice (some ⟨B114, 0, none⟩) 0 0, .int .i64 to]) Y0 rfl rfl (k151.rangeL 0 8 rfl) rfl ?_
 have k152 := (((k137.grown0 hN135.grw).grown hS144.grw (Xf (by omega))).grown0 hg149)
 refine Xz (vs := [.int .i64 k, .int .i64 l.s, .int .i64 l.v, .int .i64 0, .int .i64 0, .slice (some ⟨B133, 0, none⟩) 4 4, .slice (some ⟨B114, 0, none⟩) 0 0, .int .i64 to]) (cs' := #[.int .i64 k, .int .i64 l.s, .int .i64 l.v, .int .i64 0, .int .i64 0, .slice (some ⟨B133, 0, none⟩) 4 4, .slice (some ⟨B114, 0, none⟩) 0 0, .int .i64 to]) Y0 rfl rfl rfl (by simp [Value.oneCell']) k152 (Nat.le_of_ble_eq_true rfl) rfl ?_
 intro w153 hS154
 have hb155 := low1 hb150 hS154.grw (by omega)
 refine Xh (v := .bool true) rfl rfl ?_
 refine Xa ?_
 refine Xs ?_
 have k156 := ((k146.grown0 hg149).grown hS154.grw (Xf (by omega)))
 have k157 := ((k147.grown0 hg149).grown hS154.grw (Xf (by omega)))
 refine ⟨.tuple #[.agg #[.int .i64 k, .int .i64 l.s, .int .i64 l.v, .int .i64 0, .int .i64 0, .slice (some ⟨B133, 0, none⟩) 4 4, .slice (some ⟨B114, 0, none⟩) 0 0, .int .i64 to], .bool true], Lf rfl (Yh (vs := [.int .i64 k, .int .i64 l.s, .int .i64 l.v, .int .i64 0, .int .i64 0, .slice (some ⟨B133, 0, none⟩) 4 4, .slice (some ⟨B114, 0, none⟩) 0 0, .int .i64 to]) Y0 rfl rfl (hS154.blk.rangeL 0 8 rfl)) rfl, B133, 4, B114, 0, rfl, hlB133, (Own.rows Zw k156 (by decide)), hlB114, (Own.rows Ys k157 (by decide)), (Nat.ne_of_gt lt_B114_B133), hb155⟩
theorem W6 (k to : Int) (l : Lab) (hk : ((decide (k = 2)) || (decide (k = 3))) = true) (hok : newOk k l to = false) (w : World) : CallsR Tryd.prog 91 #[.int .i64 k, .agg #[.int .i64 l.s, .int .i64 l.v], .int .i64 to] w (fun v w' => v = .tuple #[.agg #[.int .i64 0, .int .i64 0, .int .i64 0, .int .i64 0, .int .i64 0, .slice none 0 0, .slice none 0 0, .int .i64 0], .bool false] ∧ w.grownBy w' none) := by
 refine X0 (n := 24) Tryd.func91 rfl Tryd.ntmps91 rfl ?_
 have hb0 := World.grownBy.refl w none
 have hlit : thingOk (⟨k, l, 0, 0, zeros4, [], to⟩ : Th) = false := (V6 hk).symm.trans hok
 refine Xb ?_
 refine Yu (v := .agg #[.int .i64 l.s, .int .i64 l.v]) (cs := #[.int .i64 l.s, .int .i64 l.v]) rfl rfl rfl ?_
 intro B101 w102 hN103
 have hlB101 := Yf hN103 hb0
 have hb104 := low0 hb0 hN103.grw
 refine Yj (cs := #[.int .i64 0, .int .i64 0, .int .i64 0, .int .i64 0, .int .i64 0, .slice none 0 0, .slice none 0 0, .int .i64 0]) Jn rfl rfl ?_
 intro B105 w106 hN107
 have hlB105 := Yf hN107 hb104
 have lt_B101_B105 := Xq hN107 (hN103.blk).lt
 have hb108 := low0 hb104 hN107.grw
 refine Xh (v := .bool false) rfl rfl ?_
 refine Xa ?_
 refine Xb ?_
 refine Xc (v := .int .i64 k) rfl rfl ?_
 have k109 := (hN103.blk.grown0 hN107.grw)
 refine Xu (vs := [.int .i64 l.s, .int .i64 l.v]) Qd rfl rfl (k109.rangeL 0 2 rfl) rfl ?_
 refine X7 (ps := []) (e := 37) (cs := (([] : List Rt).flatMap Rt.cells).toArray) X9 (fun _ => by kernel_rfl) rfl ?_
 intro B110 w111 hN112
 have hlB110 := Yf hN112 hb108
 have lt_B101_B110 := Xq hN112 (k109).lt
 have lt_B105_B110 := Xq hN112 (hN107.blk).lt
 have hb113 := low0 hb108 hN112.grw
 refine X7 (ps := []) (e := 3) (cs := (([] : List Int).flatMap icell).toArray) X9 (fun _ => by kernel_rfl) rfl ?_
 intro B114 w115 hN116
 have hlB114 := Yf hN116 hb113
 have k117 := (k109.grown0 hN112.grw)
 have lt_B101_B114 := Xq hN116 (k117).lt
 have k118 := (hN107.blk.grown0 hN112.grw)
 have lt_B105_B114 := Xq hN116 (k118).lt
 have lt_B110_B114 := Xq hN116 (hN112.blk).lt
 have hb119 := low0 hb113 hN116.grw
 refine Xc (v := .int .i64 to) rfl rfl ?_
 refine Yw (ps := [(0, .int .i64 k), (1, .agg #[.int .i64 l.s, .int .i64 l.v]), (4, .slice (some ⟨B110, 0, none⟩) 0 0), (5, .slice (some ⟨B114, 0, none⟩) 0 0), (6, .int .i64 to)]) (v := .agg #[.int .i64 k, .int .i64 l.s, .int .i64 l.v, .int .i64 0, .int .i64 0, .slice (some ⟨B110, 0, none⟩) 0 0, .slice (some ⟨B114, 0, none⟩) 0 0, .int .i64 to]) (Xp rfl (Xp rfl (Xp rfl (Xp rfl (Xp rfl X9))))) (by kernel_rfl) rfl ?_
 refine Yj (cs := #[.int .i64 0, .int .i64 0, .int .i64 0, .int .i64 0, .int .i64 0, .slice none 0 0, .slice none 0 0, .int .i64 0]) Jn rfl rfl ?_
 intro B120 w121 hN122
 have hlB120 := Yf hN122 hb119
 have k123 := (k117.grown0 hN116.grw)
 have lt_B101_B120 := Xq hN122 (k123).lt
 have k124 := (k118.grown0 hN116.grw)
 have lt_B105_B120 := Xq hN122 (k124).lt
 have k125 := (hN112.blk.grown0 hN116.grw)
 have lt_B110_B120 := Xq hN122 (k125).lt
 have lt_B114_B120 := Xq hN122 (hN116.blk).lt
 have hb126 := low0 hb119 hN122.grw
 refine Xz (vs := [.int .i64 k, .int .i64 l.s, .int .i64 l.v, .int .i64 0, .int .i64 0, .slice (some ⟨B110, 0, none⟩) 0 0, .slice (some ⟨B114, 0, none⟩) 0 0, .int .i64 to]) (cs' := #[.int .i64 k, .int .i64 l.s, .int .i64 l.v, .int .i64 0, .int .i64 0, .slice (some ⟨B110, 0, none⟩) 0 0, .slice (some ⟨B114, 0, none⟩) 0 0, .int .i64 to]) Y0 rfl rfl rfl (by simp [Value.oneCell']) hN122.blk (Nat.le_of_ble_eq_true rfl) rfl ?_
 intro w127 hS128
 have hb129 := low1 hb126 hS128.grw (by omega)
 refine Xa ?_
 refine Xt ?_
 refine Xb ?_
 refine Xc (v := .int .i64 k) rfl rfl ?_
 refine Xn (vs := [.int .i64 k]) Uf (Xg rfl Xm) rfl (Jd k _) ?_
 rintro _ w130 ⟨rfl, hg131⟩
 have hb132 := low0 hb129 hg131
 refine Xa ?_
 refine Zc rfl hk ?_
 refine X1 ?_
 refine Kz (g := Rt.cells) (z := Rt.zero) (c := 4) Rl rfl Zw (by omega) rfl rfl (by omega) (by omega) rfl ?_
 intro B133 w134 hN135
 have hlB133 := Yf hN135 hb132
 have k136 := (((k123.grown0 hN122.grw).grown hS128.grw (Xf (by omega))).grown0 hg131)
 have lt_B101_B133 := Xq hN135 (k136).lt
 have k137 := (((k124.grown0 hN122.grw).grown hS128.grw (Xf (by omega))).grown0 hg131)
 have lt_B105_B133 := Xq hN135 (k137).lt
 have k138 := (((k125.grown0 hN122.grw).grown hS128.grw (Xf (by omega))).grown0 hg131)
 have lt_B110_B133 := Xq hN135 (k138).lt
 have k139 := (((hN116.blk.grown0 hN122.grw).grown hS128.grw (Xf (by omega))).grown0 hg131)
 have lt_B114_B133 := Xq hN135 (k139).lt
 have k140 := (hS128.blk.grown0 hg131)
 have lt_B120_B133 := Xq hN135 (k140).lt
 have hb141 := low0 hb132 hN135.grw
 refine Xd (o' := 5) Zt rfl rfl rfl ?_
 have k142 := (k140.grown0 hN135.grw)
 refine Yc (v := .slice (some ⟨B133, 0, none⟩) 4 4) (cs' := #[.int .i64 k, .int .i64 l.s, .int .i64 l.v, .int .i64 0, .int .i64 0, .slice (some ⟨B133, 0, none⟩) 4 4, .slice (some ⟨B114, 0, none⟩) 0 0, .int .i64 to]) Qq rfl rfl rfl k142 (Nat.le_of_ble_eq_true rfl) rfl ?_
 intro w143 hS144
 have hb145 := low1 hb141 hS144.grw (by omega)
 refine Xa ?_
 refine Xv ?_
 refine Xt ?_
 refine Xb ?_
 refine Xu (vs := [.int .i64 k, .int .i64 l.s, .int .i64 l.v, .int .i64 0, .int .i64 0, .slice (some ⟨B133, 0, none⟩) 4 4, .slice (some ⟨B114, 0, none⟩) 0 0, .int .i64 to]) Y0 rfl rfl (hS144.blk.rangeL 0 8 rfl) rfl ?_
 have k146 := (hN135.blk.grown hS144.grw (Xf (by omega)))
 have k147 := ((k139.grown0 hN135.grw).grown hS144.grw (Xf (by omega)))
 refine Xn (vs := [.agg #[.int .i64 k, .int .i64 l.s, .int .i64 l.v, .int .i64 0, .int .i64 0, .slice (some ⟨B133, 0, none⟩) 4 4, .slice (some ⟨B114, 0, none⟩) 0 0, .int .i64 to]]) Hb (Xg rfl Xm) rfl (J4 (⟨⟨k, l, 0, 0, zeros4, [], to⟩, some ⟨B133, 0, none⟩, 4, some ⟨B114, 0, none⟩, 0⟩ : MTh) _ (Qf Zw k146) (Qf Ys k147) (by first | omega | exact Nat.le_of_ble_eq_true rfl | (simp only [List.length_nil, List.length_cons, List.length_append, List.length_replicate]; omega)) (by first | omega | exact Nat.le_of_ble_eq_true rfl | (simp only [List.length_nil, List.length_cons, List.length_append, List.length_replicate]; omega))) ?_
 rintro _ w148 ⟨rfl, hg149⟩
 have hb150 := low0 hb145 hg149
 refine Yk (b' := !thingOk (⟨k, l, 0, 0, zeros4, [], to⟩ : Th)) rfl rfl rfl ?_
 refine Xa ?_
 refine Zc rfl (Qc hlit) ?_
 refine Xb ?_
 refine Yw (ps := []) (v := .agg #[.int .i64 0, .int .i64 0, .int .i64 0, .int .i64 0, .int .i64 0, .slice none 0 0, .slice none 0 0, .int .i64 0]) X9 (by kernel_rfl) rfl ?_
 have k151 := (((k137.grown0 hN135.grw).grown hS144.grw (Xf (by omega))).grown0 hg149)
 refine Xz (vs := [.int .i64 0, .int .i64 0, .int .i64 0, .int .i64 0, .int .i64 0, .slice none 0 0, .slice none 0 0, .int .i64 0]) (cs' := #[.int .i64 0, .int .i64 0, .int .i64 0, .int .i64 0, .int .i64 0, .slice none 0 0, .slice none 0 0, .int .i64 0]) Y0 rfl rfl rfl (by simp [Value.oneCell']) k151 (Nat.le_of_ble_eq_true rfl) rfl ?_
 intro w152 hS153
 have hb154 := low1 hb150 hS153.grw (by omega)
 refine Xh (v := .bool false) rfl rfl ?_
 refine Xa ?_
 refine Xs ?_
 refine Yi ?_
 refine ⟨.tuple #[.agg #[.int .i64 0, .int .i64 0, .int .i64 0, .int .i64 0, .int .i64 0, .slice none 0 0, .slice none 0 0, .int .i64 0], .bool false], Lf rfl (Yh (vs := [.int .i64 0, .int .i64 0, .int .i64 0, .int .i64 0, .int .i64 0, .slice none 0 0, .slice none 0 0, .int .i64 0]) Y0 rfl rfl (hS153.blk.rangeL 0 8 rfl)) rfl, rfl, hb154⟩
theorem Q9 (k to : Int) (l : Lab) (hk : ((decide (k = 2)) || (decide (k = 3))) = false) (hok : newOk k l to = true) (w : World) : CallsR Tryd.prog 91 #[.int .i64 k, .agg #[.int .i64 l.s, .int .i64 l.v], .int .i64 to] w (fun v w' => ∃ (S sc Q qc : Nat), v = .tuple #[.agg #[.int .i64 k, .int .i64 l.s, .int .i64 l.v, .int .i64 0, .int .i64 0, .slice (some ⟨S, 0, none⟩) 0 sc, .slice (some ⟨Q, 0, none⟩) 0 qc, .int .i64 to], .bool true] ∧ w.heap.size ≤ S ∧ Dw.Own w' S 37 5 sc 0 (([] : List Rt).flatMap Rt.cells) ∧ w.heap.size ≤ Q ∧ Dw.Own w' Q 3 1 qc 0 (([] : List Int).flatMap icell) ∧ S ≠ Q ∧ w.grownBy w' none) := by
 refine X0 (n := 24) Tryd.func91 rfl Tryd.ntmps91 rfl ?_
 have hb0 := World.grownBy.refl w none
 have hlit : thingOk (⟨k, l, 0, 0, [], [], to⟩ : Th) = true := (Kb hk).symm.trans hok
 have h101 : decide (k = 2) = false := Qx hk
 have h102 : decide (k = 3) = false := Qy hk
 refine Xb ?_
 refine Yu (v := .agg #[.int .i64 l.s, .int .i64 l.v]) (cs := #[.int .i64 l.s, .int .i64 l.v]) rfl rfl rfl ?_
 intro B103 w104 hN105
 have hlB103 := Yf hN105 hb0
 have hb106 := low0 hb0 hN105.grw
 refine Yj (cs := #[.int .i64 0, .int .i64 0, .int .i64 0, .int .i64 0, .int .i64 0, .slice none 0 0, .slice none 0 0, .int .i64 0]) Jn rfl rfl ?_
 intro B107 w108 hN109
 have hlB107 := Yf hN109 hb106
 have lt_B103_B107 := Xq hN109 (hN105.blk).lt
 have hb110 := low0 hb106 hN109.grw
 refine Xh (v := .bool false) rfl rfl ?_
 refine Xa ?_
 refine Xb ?_
 refine Xc (v := .int .i64 k) rfl rfl ?_
 have k111 := (hN105.blk.grown0 hN109.grw)
 refine Xu (vs := [.int .i64 l.s, .int .i64 l.v]) Qd rfl rfl (k111.rangeL 0 2 rfl) rfl ?_
 refine X7 (ps := []) (e := 37) (cs := (([] : List Rt).flatMap Rt.cells).toArray) X9 (fun _ => by kernel_rfl) rfl ?_
 intro B112 w113 hN114
 have hlB112 := Yf hN114 hb110
 have lt_B103_B112 := Xq hN114 (k111).lt
 have lt_B107_B112 := Xq hN114 (hN109.blk).lt
 have hb115 := low0 hb110 hN114.grw
 refine X7 (ps := []) (e := 3) (cs := (([] : List Int).flatMap icell).toArray) X9 (fun _ => by kernel_rfl) rfl ?_
 intro B116 w117 hN118
 have hlB116 := Yf hN118 hb115
 have k119 := (k111.grown0 hN114.grw)
 have lt_B103_B116 := Xq hN118 (k119).lt
 have k120 := (hN109.blk.grown0 hN114.grw)
 have lt_B107_B116 := Xq hN118 (k120).lt
 have lt_B112_B116 := Xq hN118 (hN114.blk).lt
 have hb121 := low0 hb115 hN118.grw
 refine Xc (v := .int .i64 to) rfl rfl ?_
 refine Yw (ps := [(0, .int .i64 k), (1, .agg #[.int .i64 l.s, .int .i64 l.v]), (4, .slice (some ⟨B112, 0, none⟩) 0 0), (5, .slice (some ⟨B116, 0, none⟩) 0 0), (6, .int .i64 to)]) (v := .agg #[.int .i64 k, .int .i64 l.s, .int .i64 l.v, .int .i64 0, .int .i64 0, .slice (some ⟨B112, 0, none⟩) 0 0, .slice (some ⟨B116, 0, none⟩) 0 0, .int .i64 to]) (Xp rfl (Xp rfl (Xp rfl (Xp rfl (Xp rfl X9))))) (by kernel_rfl) rfl ?_
 refine Yj (cs := #[.int .i64 0, .int .i64 0, .int .i64 0, .int .i64 0, .int .i64 0, .slice none 0 0, .slice none 0 0, .int .i64 0]) Jn rfl rfl ?_
 intro B122 w123 hN124
 have hlB122 := Yf hN124 hb121
 have k125 := (k119.grown0 hN118.grw)
 have lt_B103_B122 := Xq hN124 (k125).lt
 have k126 := (k120.grown0 hN118.grw)
 have lt_B107_B122 := Xq hN124 (k126).lt
 have k127 := (hN114.blk.grown0 hN118.grw)
 have lt_B112_B122 := Xq hN124 (k127).lt
 have lt_B116_B122 := Xq hN124 (hN118.blk).lt
 have hb128 := low0 hb121 hN124.grw
 refine Xz (vs := [.int .i64 k, .int .i64 l.s, .int .i64 l.v, .int .i64 0, .int .i64 0, .slice (some ⟨B112, 0, none⟩) 0 0, .slice (some ⟨B116, 0, none⟩) 0 0, .int .i64 to]) (cs' := #[.int .i64 k, .int .i64 l.s, .int .i64 l.v, .int .i64 0, .int .i64 0, .slice (some ⟨B112, 0, none⟩) 0 0, .slice (some ⟨B116, 0, none⟩) 0 0, .int .i64 to]) Y0 rfl rfl rfl (by simp [Value.oneCell']) hN124.blk (Nat.le_of_ble_eq_true rfl) rfl ?_
 intro w129 hS130
 have hb131 := low1 hb128 hS130.grw (by omega)
 refine Xa ?_
 refine Xt ?_
 refine Xb ?_
 refine Xc (v := .int .i64 k) rfl rfl ?_
 refine Xn (vs := [.int .i64 k]) Uf (Xg rfl Xm) rfl (Jd k _) ?_
 rintro _ w132 ⟨rfl, hg133⟩
 have hb134 := low0 hb131 hg133
 refine Xa ?_
 refine Zr rfl hk ?_
 refine Xy ?_
 refine Xv ?_
 refine Xt ?_
 refine Xb ?_
 have k135 := (hS130.blk.grown0 hg133)
 refine Xu (vs := [.int .i64 k, .int .i64 l.s, .int .i64 l.v, .int .i64 0, .int .i64 0, .slice (some ⟨B112, 0, none⟩) 0 0, .slice (some ⟨B116, 0, none⟩) 0 0, .int .i64 to]) Y0 rfl rfl (k135.rangeL 0 8 rfl) rfl ?_
 have k136 := (((k127.grown0 hN124.grw).grown hS130.grw (Xf (by omega))).grown0 hg133)
 have k137 := (((hN118.blk.grown0 hN124.grw).grown hS130.grw (Xf (by omega))).grown0 hg133)
 refine Xn (vs := [.agg #[.int .i64 k, .int .i64 l.s, .int .i64 l.v, .int .i64 0, .int .i64 0, .slice (some ⟨B112, 0, none⟩) 0 0, .slice (some ⟨B116, 0, none⟩) 0 0, .int .i64 to]]) Hb (Xg rfl Xm) rfl (J4 (⟨⟨k, l, 0, 0, [], [], to⟩, some ⟨B112, 0, none⟩, 0, some ⟨B116, 0, none⟩, 0⟩ : MTh) _ (Qf Zw k136) (Qf Ys k137) (by first | omega | exact Nat.le_of_ble_eq_true rfl | (simp only [List.length_nil, List.length_cons, List.length_append, List.length_replicate]; omega)) (by first | omega | exact Nat.le_of_ble_eq_true rfl | (simp only [List.length_nil, List.length_cons, List.length_append, List.length_replicate]; omega))) ?_
 rintro _ w138 ⟨rfl, hg139⟩
 have hb140 := low0 hb134 hg139
 refine Yk (b' := !thingOk (⟨k, l, 0, 0, [], [], to⟩ : Th)) rfl rfl rfl ?_
 refine Xa ?_
 refine Zr rfl (Jp hlit) ?_
 refine Xy ?_
 refine Xv ?_
 refine Xb ?_
 have k141 := (k135.grown0 hg139)
 refine Xu (vs := [.int .i64 k, .int .i64 l.s, .int .i64 l.v, .int .i64 0, .int .i64 0, .slice (some ⟨B112, 0, none⟩) 0 0, .slice (some ⟨B116, 0, none⟩) 0 0, .int .i64 to]) Y0 rfl rfl (k141.rangeL 0 8 rfl) rfl ?_
 have k142 := ((((k126.grown0 hN124.grw).grown hS130.grw (Xf (by omega))).grown0 hg133).grown0 hg139)
 refine Xz (vs := [.int .i64 k, .int .i64 l.s, .int .i64 l.v, .int .i64 0, .int .i64 0, .slice (some ⟨B112, 0, none⟩) 0 0, .slice (some ⟨B116, 0, none⟩) 0 0, .int .i64 to]) (cs' := #[.int .i64 k, .int .i64 l.s, .int .i64 l.v, .int .i64 0, .int .i64 0, .slice (some ⟨B112, 0, none⟩) 0 0, .slice (some ⟨B116, 0, none⟩) 0 0, .int .i64 to]) Y0 rfl rfl rfl (by simp [Value.oneCell']) k142 (Nat.le_of_ble_eq_true rfl) rfl ?_
 intro w143 hS144
 have hb145 := low1 hb140 hS144.grw (by omega)
 refine Xh (v := .bool true) rfl rfl ?_
 refine Xa ?_
 refine Xs ?_
 have k146 := ((k136.grown0 hg139).grown hS144.grw (Xf (by omega)))
 have k147 := ((k137.grown0 hg139).grown hS144.grw (Xf (by omega)))
 refine ⟨.tuple #[.agg #[.int .i64 k, .int .i64 l.s, .int .i64 l.v, .int .i64 0, .int .i64 0, .slice (some ⟨B112, 0, none⟩) 0 0, .slice (some ⟨B116, 0, none⟩) 0 0, .int .i64 to], .bool true], Lf rfl (Yh (vs := [.int .i64 k, .int .i64 l.s, .int .i64 l.v, .int .i64 0, .int .i64 0, .slice (some ⟨B112, 0, none⟩) 0 0, .slice (some ⟨B116, 0, none⟩) 0 0, .int .i64 to]) Y0 rfl rfl (hS144.blk.rangeL 0 8 rfl)) rfl, B112, 0, B116, 0, rfl, hlB112, (Own.rows Zw k146 (by decide)), hlB116, (Own.rows Ys k147 (by decide)), (Nat.ne_of_lt lt_B112_B116), hb145⟩
theorem W1 (k to : Int) (l : Lab) (hk : ((decide (k = 2)) || (decide (k = 3))) = false) (hok : newOk k l to = false) (w : World) : CallsR Tryd.prog 91 #[.int .i64 k, .agg #[.int .i64 l.s, .int .i64 l.v], .int .i64 to] w (fun v w' => v = .tuple #[.agg #[.int .i64 0, .int .i64 0, .int .i64 0, .int .i64 0, .int .i64 0, .slice none 0 0, .slice none 0 0, .int .i64 0], .bool false] ∧ w.grownBy w' none) := by
 refine X0 (n := 24) Tryd.func91 rfl Tryd.ntmps91 rfl ?_
 have hb0 := World.grownBy.refl w none
 have hlit : thingOk (⟨k, l, 0, 0, [], [], to⟩ : Th) = false := (Kb hk).symm.trans hok
 have h101 : decide (k = 2) = false := Qx hk
 have h102 : decide (k = 3) = false := Qy hk
 refine Xb ?_
 refine Yu (v := .agg #[.int .i64 l.s, .int .i64 l.v]) (cs := #[.int .i64 l.s, .int .i64 l.v]) rfl rfl rfl ?_
 intro B103 w104 hN105
 have hlB103 := Yf hN105 hb0
 have hb106 := low0 hb0 hN105.grw
 refine Yj (cs := #[.int .i64 0, .int .i64 0, .int .i64 0, .int .i64 0, .int .i64 0, .slice none 0 0, .slice none 0 0, .int .i64 0]) Jn rfl rfl ?_
 intro B107 w108 hN109
 have hlB107 := Yf hN109 hb106
 have lt_B103_B107 := Xq hN109 (hN105.blk).lt
 have hb110 := low0 hb106 hN109.grw
 refine Xh (v := .bool false) rfl rfl ?_
 refine Xa ?_
 refine Xb ?_
 refine Xc (v := .int .i64 k) rfl rfl ?_
 have k111 := (hN105.blk.grown0 hN109.grw)
 refine Xu (vs := [.int .i64 l.s, .int .i64 l.v]) Qd rfl rfl (k111.rangeL 0 2 rfl) rfl ?_
 refine X7 (ps := []) (e := 37) (cs := (([] : List Rt).flatMap Rt.cells).toArray) X9 (fun _ => by kernel_rfl) rfl ?_
 intro B112 w113 hN114
 have hlB112 := Yf hN114 hb110
 have lt_B103_B112 := Xq hN114 (k111).lt
 have lt_B107_B112 := Xq hN114 (hN109.blk).lt
 have hb115 := low0 hb110 hN114.grw
 refine X7 (ps := []) (e := 3) (cs := (([] : List Int).flatMap icell).toArray) X9 (fun _ => by kernel_rfl) rfl ?_
 intro B116 w117 hN118
 have hlB116 := Yf hN118 hb115
 have k119 := (k111.grown0 hN114.grw)
 have lt_B103_B116 := Xq hN118 (k119).lt
 have k120 := (hN109.blk.grown0 hN114.grw)
 have lt_B107_B116 := Xq hN118 (k120).lt
 have lt_B112_B116 := Xq hN118 (hN114.blk).lt
 have hb121 := low0 hb115 hN118.grw
 refine Xc (v := .int .i64 to) rfl rfl ?_
 refine Yw (ps := [(0, .int .i64 k), (1, .agg #[.int .i64 l.s, .int .i64 l.v]), (4, .slice (some ⟨B112, 0, none⟩) 0 0), (5, .slice (some ⟨B116, 0, none⟩) 0 0), (6, .int .i64 to)]) (v := .agg #[.int .i64 k, .int .i64 l.s, .int .i64 l.v, .int .i64 0, .int .i64 0, .slice (some ⟨B112, 0, none⟩) 0 0, .slice (some ⟨B116, 0, none⟩) 0 0, .int .i64 to]) (Xp rfl (Xp rfl (Xp rfl (Xp rfl (Xp rfl X9))))) (by kernel_rfl) rfl ?_
 refine Yj (cs := #[.int .i64 0, .int .i64 0, .int .i64 0, .int .i64 0, .int .i64 0, .slice none 0 0, .slice none 0 0, .int .i64 0]) Jn rfl rfl ?_
 intro B122 w123 hN124
 have hlB122 := Yf hN124 hb121
 have k125 := (k119.grown0 hN118.grw)
 have lt_B103_B122 := Xq hN124 (k125).lt
 have k126 := (k120.grown0 hN118.grw)
 have lt_B107_B122 := Xq hN124 (k126).lt
 have k127 := (hN114.blk.grown0 hN118.grw)
 have lt_B112_B122 := Xq hN124 (k127).lt
 have lt_B116_B122 := Xq hN124 (hN118.blk).lt
 have hb128 := low0 hb121 hN124.grw
 refine Xz (vs := [.int .i64 k, .int .i64 l.s, .int .i64 l.v, .int .i64 0, .int .i64 0, .slice (some ⟨B112, 0, none⟩) 0 0, .slice (some ⟨B116, 0, none⟩) 0 0, .int .i64 to]) (cs' := #[.int .i64 k, .int .i64 l.s, .int .i64 l.v, .int .i64 0, .int .i64 0, .slice (some ⟨B112, 0, none⟩) 0 0, .slice (some ⟨B116, 0, none⟩) 0 0, .int .i64 to]) Y0 rfl rfl rfl (by simp [Value.oneCell']) hN124.blk (Nat.le_of_ble_eq_true rfl) rfl ?_
 intro w129 hS130
 have hb131 := low1 hb128 hS130.grw (by omega)
 refine Xa ?_
 refine Xt ?_
 refine Xb ?_
 refine Xc (v := .int .i64 k) rfl rfl ?_
 refine Xn (vs := [.int .i64 k]) Uf (Xg rfl Xm) rfl (Jd k _) ?_
 rintro _ w132 ⟨rfl, hg133⟩
 have hb134 := low0 hb131 hg133
 refine Xa ?_
 refine Zr rfl hk ?_
 refine Xy ?_
 refine Xv ?_
 refine Xt ?_
 refine Xb ?_
 have k135 := (hS130.blk.grown0 hg133)
 refine Xu (vs := [.int .i64 k, .int .i64 l.s, .int .i64 l.v, .int .i64 0, .int .i64 0, .slice (some ⟨B112, 0, none⟩) 0 0, .slice (some ⟨B116, 0, none⟩) 0 0, .int .i64 to]) Y0 rfl rfl (k135.rangeL 0 8 rfl) rfl ?_
 have k136 := (((k127.grown0 hN124.grw).grown hS130.grw (Xf (by omega))).grown0 hg133)
 have k137 := (((hN118.blk.grown0 hN124.grw).grown hS130.grw (Xf (by omega))).grown0 hg133)
 refine Xn (vs := [.agg #[.int .i64 k, .int .i64 l.s, .int .i64 l.v, .int .i64 0, .int .i64 0, .slice (some ⟨B112, 0, none⟩) 0 0, .slice (some ⟨B116, 0, none⟩) 0 0, .int .i64 to]]) Hb (Xg rfl Xm) rfl (J4 (⟨⟨k, l, 0, 0, [], [], to⟩, some ⟨B112, 0, none⟩, 0, some ⟨B116, 0, none⟩, 0⟩ : MTh) _ (Qf Zw k136) (Qf Ys k137) (by first | omega | exact Nat.le_of_ble_eq_true rfl | (simp only [List.length_nil, List.length_cons, List.length_append, List.length_replicate]; omega)) (by first | omega | exact Nat.le_of_ble_eq_true rfl | (simp only [List.length_nil, List.length_cons, List.length_append, List.length_replicate]; omega))) ?_
 rintro _ w138 ⟨rfl, hg139⟩
 have hb140 := low0 hb134 hg139
 refine Yk (b' := !thingOk (⟨k, l, 0, 0, [], [], to⟩ : Th)) rfl rfl rfl ?_
 refine Xa ?_
 refine Zc rfl (Qc hlit) ?_
 refine Xb ?_
 refine Yw (ps := []) (v := .agg #[.int .i64 0, .int .i64 0, .int .i64 0, .int .i64 0, .int .i64 0, .slice none 0 0, .slice none 0 0, .int .i64 0]) X9 (by kernel_rfl) rfl ?_
 have k141 := ((((k126.grown0 hN124.grw).grown hS130.grw (Xf (by omega))).grown0 hg133).grown0 hg139)
 refine Xz (vs := [.int .i64 0, .int .i64 0, .int .i64 0, .int .i64 0, .int .i64 0, .slice none 0 0, .slice none 0 0, .int .i64 0]) (cs' := #[.int .i64 0, .int .i64 0, .int .i64 0, .int .i64 0, .int .i64 0, .slice none 0 0, .slice none 0 0, .int .i64 0]) Y0 rfl rfl rfl (by simp [Value.oneCell']) k141 (Nat.le_of_ble_eq_true rfl) rfl ?_
 intro w142 hS143
 have hb144 := low1 hb140 hS143.grw (by omega)
 refine Xh (v := .bool false) rfl rfl ?_
 refine Xa ?_
 refine Xs ?_
 refine Yi ?_
 refine ⟨.tuple #[.agg #[.int .i64 0, .int .i64 0, .int .i64 0, .int .i64 0, .int .i64 0, .slice none 0 0, .slice none 0 0, .int .i64 0], .bool false], Lf rfl (Yh (vs := [.int .i64 0, .int .i64 0, .int .i64 0, .int .i64 0, .int .i64 0, .slice none 0 0, .slice none 0 0, .int .i64 0]) Y0 rfl rfl (hS143.blk.rangeL 0 8 rfl)) rfl, rfl, hb144⟩
theorem L7 (a b : Lab) (w : World) : CallsR Tryd.prog 59 #[.agg #[.int .i64 a.s, .int .i64 a.v], .agg #[.int .i64 b.s, .int .i64 b.v]] w (fun v w' => v = .bool (decide (a = b)) ∧ w.grownBy w' none) := by
 refine X0 (n := 15) Tryd.func59 rfl Tryd.ntmps59 rfl ?_
 have hb0 := World.grownBy.refl w none
 refine Xb ?_
 refine Yu (v := .agg #[.int .i64 a.s, .int .i64 a.v]) (cs := #[.int .i64 a.s, .int .i64 a.v]) rfl rfl rfl ?_
 intro B101 w102 hN103
 have hlB101 := Yf hN103 hb0
 have hb104 := low0 hb0 hN103.grw
 refine Yu (v := .agg #[.int .i64 b.s, .int .i64 b.v]) (cs := #[.int .i64 b.s, .int .i64 b.v]) rfl rfl rfl ?_
 intro B105 w106 hN107
 have hlB105 := Yf hN107 hb104
 have lt_B101_B105 := Xq hN107 (hN103.blk).lt
 have hb108 := low0 hb104 hN107.grw
 refine Xh (v := .bool false) rfl rfl ?_
 refine Xa ?_
 refine Xt ?_
 refine Xb ?_
 refine Xd (o' := 0) Jh rfl rfl rfl ?_
 have k109 := (hN103.blk.grown0 hN107.grw)
 refine Xi (v := .int .i64 a.s) X3 rfl (k109.cell rfl) rfl ?_
 refine Xd (o' := 0) Jh rfl rfl rfl ?_
 refine Xi (v := .int .i64 b.s) X3 rfl (hN107.blk.cell rfl) rfl ?_
 refine Y7 (q := !(decide (a.s = b.s))) rfl rfl rfl rfl ?_
 refine Xa ?_
 refine Xw rfl (fun h110 => ?_) (fun h110 => ?_)
 ·
  have h111 := Zn h110
  have h112 := of_decide_eq_false h111
  refine Xb ?_
  refine Xh (v := .bool false) rfl rfl ?_
  refine Xa ?_
  refine Xs ?_
  refine Yi ?_
  refine ⟨.bool false, Yq rfl rfl, ?_, hb108⟩
  obtain ⟨a1, a2⟩ := a
  obtain ⟨b1, b2⟩ := b
  simp_all
 ·
  have h113 := Zh h110
  have h114 := of_decide_eq_true h113
  refine Xy ?_
  refine Xv ?_
  refine Xt ?_
  refine Xb ?_
  refine Xd (o' := 1) Jw rfl rfl rfl ?_
  refine Xi (v := .int .i64 a.v) X3 rfl (k109.cell rfl) rfl ?_
  refine Xd (o' := 1) Jw rfl rfl rfl ?_
  refine Xi (v := .int .i64 b.v) X3 rfl (hN107.blk.cell rfl) rfl ?_
  refine Y7 (q := !(decide (a.v = b.v))) rfl rfl rfl rfl ?_
  refine Xa ?_
  refine Xw rfl (fun h115 => ?_) (fun h115 => ?_)
  ·
   have h116 := Zn h115
   have h117 := of_decide_eq_false h116
   refine Xb ?_
   refine Xh (v := .bool false) rfl rfl ?_
   refine Xa ?_
   refine Xs ?_
   refine Yi ?_
   refine ⟨.bool false, Yq rfl rfl, ?_, hb108⟩
   obtain ⟨a1, a2⟩ := a
   obtain ⟨b1, b2⟩ := b
   simp_all
  ·
   have h118 := Zh h115
   have h119 := of_decide_eq_true h118
   refine Xy ?_
   refine Xv ?_
   refine Xb ?_
   refine Xh (v := .bool true) rfl rfl ?_
   refine Xa ?_
   refine Xs ?_
   refine ⟨.bool true, Yq rfl rfl, ?_, hb108⟩
   obtain ⟨a1, a2⟩ := a
   obtain ⟨b1, b2⟩ := b
   simp_all
theorem N5 (w : World) (xs ys : List Int) (a b : Option Addr) (c e : Nat) (hs : SlAt w a 1 (xs.map icell)) (ht : SlAt w b 1 (ys.map icell)) (hn : xs.length ≤ 1048576) (hm : ys.length ≤ 1048576) : CallsR Tryd.prog 61 #[.slice a xs.length c, .slice b ys.length e] w (fun v w' => v = .bool (decide (xs = ys)) ∧ w.grownBy w' none) := by
 refine X0 (n := 26) Tryd.func61 rfl Tryd.ntmps61 rfl ?_
 have hb0 := World.grownBy.refl w none
 refine Xb ?_
 refine Xh (v := .bool false) rfl rfl ?_
 refine Xa ?_
 refine Xt ?_
 refine Xb ?_
 refine Xc (v := .slice a xs.length c) rfl rfl ?_
 refine Ym (by kernel_rfl) rfl rfl ?_
 refine Xc (v := .slice b ys.length e) rfl rfl ?_
 refine Ym (by kernel_rfl) rfl rfl ?_
 refine Y7 (q := !(decide ((xs.length : Int) = (ys.length : Int)))) rfl rfl rfl rfl ?_
 refine Xa ?_
 refine Xw rfl (fun h101 => ?_) (fun h101 => ?_)
 ·
  have h102 := Zn h101
  have h103 := of_decide_eq_false h102
  refine Xb ?_
  refine Xh (v := .bool false) rfl rfl ?_
  refine Xa ?_
  refine Xs ?_
  refine Yi ?_
  refine ⟨.bool false, Yq rfl rfl, ?_, hb0⟩
  exact congrArg Value.bool (decide_eq_false (fun h => by have := congrArg List.length h; omega)).symm
 ·
  have h104 := Zh h101
  have h105 := of_decide_eq_true h104
  refine Xy ?_
  refine Xv ?_
  refine Xt ?_
  refine Xb ?_
  refine Xh (v := .int .i64 0) rfl rfl ?_
  refine Xa ?_
  refine Ye ?_
  refine Zd (fun mm f' w' => ∃ (k : Nat), mm = xs.length - k ∧ k ≤ xs.length ∧ xs.take k = ys.take k ∧ f' 5 = .int .i64 (k : Int) ∧ f' 0 = .slice a xs.length c ∧ f' 1 = .slice b ys.length e ∧ w.grownBy w' none) (xs.length - 0) ⟨0, rfl, (Nat.zero_le _), rfl, rfl, rfl, rfl, hb0⟩ ?_
  rintro mm f106 w107 ⟨k, hm109, hk, ha, e110, e111, e112, hb108⟩
  refine Xt ?_
  refine Xb ?_
  refine Xc (v := .int .i64 (k : Int)) e110 rfl ?_
  refine Xc (v := .slice a xs.length c) e111 rfl ?_
  refine Ym (by kernel_rfl) rfl rfl ?_
  refine Y4 (q := decide ((k : Int) < (xs.length : Int))) rfl rfl rfl rfl ?_
  refine Xa ?_
  refine Xw rfl (fun h113 => ?_) (fun h113 => ?_)
  ·
   have h114 := of_decide_eq_true h113
   refine Xy ?_
   refine Xv ?_
   refine Xt ?_
   refine Ye ?_
   refine Xt ?_
   obtain ⟨x147, hx148⟩ := Zf (l := xs) (i := k) (by omega)
   obtain ⟨b149, q150, o151, ha152, ho153, hr154⟩ := SlAt.at hs (Yn hx148)
   obtain ⟨x155, hx156⟩ := Zf (l := ys) (i := k) (by omega)
   obtain ⟨b157, q158, o159, ha160, ho161, hr162⟩ := SlAt.at ht (Yn hx156)
   refine Ze (m := 8) (vals := [(17, .slice a xs.length c), (18, .int .i64 (k : Int)), (19, .pointer (some ⟨b149, o151, none⟩)), (20, .int .i64 x147), (21, .slice b ys.length e), (22, .int .i64 (k : Int)), (23, .pointer (some ⟨b157, o159, none⟩)), (24, .int .i64 x155)]) (fun w' => w107.grownBy w' none) Zi (by kernel_rfl) (Yl _) ?_ ?_
   ·
    refine Xj rfl (fun w163 hi164 => ?_) ?_
    ·
     have hb165 := low0 hb108 hi164
     refine Xc (v := .slice a xs.length c) e111 rfl ?_
     exact Xa ⟨rfl, hi164⟩
    refine Xj rfl (fun w166 hi167 => ?_) ?_
    ·
     have hb168 := low0 hb108 hi167
     refine Xc (v := .int .i64 (k : Int)) e110 rfl ?_
     exact Xa ⟨rfl, hi167⟩
    refine Xj rfl (fun w169 hi170 => ?_) ?_
    ·
     have hb171 := low0 hb108 hi170
     refine Yd Qa rfl rfl ha152 ho153 (by omega) (by omega) rfl ?_
     exact Xa ⟨rfl, hi170⟩
    refine Xj rfl (fun w172 hi173 => ?_) ?_
    ·
     have hb174 := low0 hb108 hi173
     refine Xi (v := .int .i64 x147) X3 rfl ((Yo hr154 hb174) 0 _ rfl) rfl ?_
     exact Xa ⟨rfl, hi173⟩
    refine Xj rfl (fun w175 hi176 => ?_) ?_
    ·
     have hb177 := low0 hb108 hi176
     refine Xc (v := .slice b ys.length e) e112 rfl ?_
     exact Xa ⟨rfl, hi176⟩
    refine Xj rfl (fun w178 hi179 => ?_) ?_
    ·
     have hb180 := low0 hb108 hi179
     refine Xc (v := .int .i64 (k : Int)) e110 rfl ?_
     exact Xa ⟨rfl, hi179⟩
    refine Xj rfl (fun w181 hi182 => ?_) ?_
    ·
     have hb183 := low0 hb108 hi182
     refine Yd Qa rfl rfl ha160 ho161 (by omega) (by omega) rfl ?_
     exact Xa ⟨rfl, hi182⟩
    refine Xj rfl (fun w184 hi185 => ?_) ?_
    ·
     have hb186 := low0 hb108 hi185
     refine Xi (v := .int .i64 x155) X3 rfl ((Yo hr162 hb186) 0 _ rfl) rfl ?_
     exact Xa ⟨rfl, hi185⟩
    exact Zj
   ·
    intro w187 hi188
    have hb189 := low0 hb108 hi188
    refine Y7 (q := !(decide (x147 = x155))) rfl rfl rfl rfl ?_
    refine Xa ?_
    refine Xv ?_
    refine Xw rfl (fun h190 => ?_) (fun h190 => ?_)
    ·
     have h191 := Zn h190
     have h192 := of_decide_eq_false h191
     refine Xb ?_
     refine Xh (v := .bool false) rfl rfl ?_
     refine Xa ?_
     refine Xs ?_
     refine Y6 ?_
     refine Yi ?_
     refine Yi ?_
     refine Y6 ?_
     refine Yi ?_
     refine ⟨.bool false, Yq rfl rfl, ?_, hb189⟩
     exact congrArg Value.bool (decide_eq_false (Ul hx148 hx156 (of_decide_eq_false h191))).symm
    ·
     have h193 := Zh h190
     have h194 := of_decide_eq_true h193
     refine Xy ?_
     refine Yy ?_
     refine Xv ?_
     refine X1 ?_
     refine Xc (v := .int .i64 (k : Int)) e110 rfl ?_
     refine Yx (c := (k : Int) + 1) rfl rfl (by omega) (by omega) (by omega) rfl ?_
     refine Xh (v := .int .i64 ((k : Int) + 1)) rfl rfl ?_
     refine Xa ?_
     refine Xv ?_
     exact ⟨xs.length - (k + 1), by omega, (k + 1), rfl, (by omega), (Kp ha hx148 hx156 (of_decide_eq_true h193)), rfl, e111, e112, hb189⟩
  ·
   have h195 := of_decide_eq_false h113
   refine Y5 ?_
   refine Y2 ?_
   refine Y2 ?_
   refine Z1 ?_
   refine Xv ?_
   refine Xb ?_
   refine Xh (v := .bool true) rfl rfl ?_
   refine Xa ?_
   refine Xs ?_
   refine ⟨.bool true, Yq rfl rfl, ?_, hb108⟩
   exact congrArg Value.bool (decide_eq_true (Vd ha (by omega) (by omega))).symm
theorem Nw (m p : MTh) (w : World) (ha : ThAt w m) (hb : ThAt w p) (hla : m.t.slots.length ≤ 1048576 ∧ m.t.queue.length ≤ 1048576) (hlb : p.t.slots.length ≤ 1048576 ∧ p.t.queue.length ≤ 1048576) : CallsR Tryd.prog 28 #[.agg #[.int .i64 m.t.kind, .int .i64 m.t.lab.s, .int .i64 m.t.lab.v, .int .i64 m.t.ve, .int .i64 m.t.num, .slice m.sa m.t.slots.length m.sc, .slice m.qa m.t.queue.length m.qc, .int .i64 m.t.to], .agg #[.int .i64 p.t.kind, .int .i64 p.t.lab.s, .int .i64 p.t.lab.v, .int .i64 p.t.ve, .int .i64 p.t.num, .slice p.sa p.t.slots.length p.sc, .slice p.qa p.t.queue.length p.qc, .int .i64 p.t.to]] w (fun v w' => v = .bool (decide (m.t = p.t)) ∧ w.grownBy w' none) := by
 refine X0 (n := 43) Tryd.func28 rfl Tryd.ntmps28 rfl ?_
 have hb0 := World.grownBy.refl w none
 refine Xb ?_
 refine Yu (v := .agg #[.int .i64 m.t.kind, .int .i64 m.t.lab.s, .int .i64 m.t.lab.v, .int .i64 m.t.ve, .int .i64 m.t.num, .slice m.sa m.t.slots.length m.sc, .slice m.qa m.t.queue.length m.qc, .int .i64 m.t.to]) (cs := #[.int .i64 m.t.kind, .int .i64 m.t.lab.s, .int .i64 m.t.lab.v, .int .i64 m.t.ve, .int .i64 m.t.num, .slice m.sa m.t.slots.length m.sc, .slice m.qa m.t.queue.length m.qc, .int .i64 m.t.to]) rfl rfl rfl ?_
 intro B101 w102 hN103
 have hlB101 := Yf hN103 hb0
 have hb104 := low0 hb0 hN103.grw
 refine Yu (v := .agg #[.int .i64 p.t.kind, .int .i64 p.t.lab.s, .int .i64 p.t.lab.v, .int .i64 p.t.ve, .int .i64 p.t.num, .slice p.sa p.t.slots.length p.sc, .slice p.qa p.t.queue.length p.qc, .int .i64 p.t.to]) (cs := #[.int .i64 p.t.kind, .int .i64 p.t.lab.s, .int .i64 p.t.lab.v, .int .i64 p.t.ve, .int .i64 p.t.num, .slice p.sa p.t.slots.length p.sc, .slice p.qa p.t.queue.length p.qc, .int .i64 p.t.to]) rfl rfl rfl ?_
 intro B105 w106 hN107
 have hlB105 := Yf hN107 hb104
 have lt_B101_B105 := Xq hN107 (hN103.blk).lt
 have hb108 := low0 hb104 hN107.grw
 refine Xh (v := .bool false) rfl rfl ?_
 refine Xa ?_
 refine Xt ?_
 refine Xb ?_
 refine Xd (o' := 0) Yt rfl rfl rfl ?_
 have k109 := (hN103.blk.grown0 hN107.grw)
 refine Xi (v := .int .i64 m.t.kind) X3 rfl (k109.cell rfl) rfl ?_
 refine Xd (o' := 0) Yt rfl rfl rfl ?_
 refine Xi (v := .int .i64 p.t.kind) X3 rfl (hN107.blk.cell rfl) rfl ?_
 refine Y7 (q := !(decide (m.t.kind = p.t.kind))) rfl rfl rfl rfl ?_
 refine Xa ?_
 refine Xw rfl (fun h110 => ?_) (fun h110 => ?_)
 ·
  have h111 := Zn h110
  have h112 := of_decide_eq_false h111
  refine Xb ?_
  refine Xh (v := .bool false) rfl rfl ?_
  refine Xa ?_
  refine Xs ?_
  refine Yi ?_
  refine ⟨.bool false, Yq rfl rfl, ?_, hb108⟩
  exact congrArg Value.bool (decide_eq_false (fun h => of_decide_eq_false h111 (congrArg Th.kind h))).symm
 ·
  have h113 := Zh h110
  have h114 := of_decide_eq_true h113
  refine Xy ?_
  refine Xv ?_
  refine Xt ?_
  refine Xb ?_
  refine Xd (o' := 1) Q3 rfl rfl rfl ?_
  refine Xu (vs := [.int .i64 m.t.lab.s, .int .i64 m.t.lab.v]) Qd rfl rfl (k109.rangeL 1 2 rfl) rfl ?_
  refine Xd (o' := 1) Q3 rfl rfl rfl ?_
  refine Xu (vs := [.int .i64 p.t.lab.s, .int .i64 p.t.lab.v]) Qd rfl rfl (hN107.blk.rangeL 1 2 rfl) rfl ?_
  refine Xn (vs := [.agg #[.int .i64 m.t.lab.s, .int .i64 m.t.lab.v], .agg #[.int .i64 p.t.lab.s, .int .i64 p.t.lab.v]]) Ml (Xg rfl (Xg rfl Xm)) rfl (L7 m.t.lab p.t.lab _) ?_
  rintro _ w115 ⟨rfl, hg116⟩
  have hb117 := low0 hb108 hg116
  refine Yk (b' := !(decide (m.t.lab = p.t.lab))) rfl rfl rfl ?_
  refine Xa ?_
  refine Xw rfl (fun h118 => ?_) (fun h118 => ?_)
  ·
   have h119 := Zn h118
   have h120 := of_decide_eq_false h119
   refine Xb ?_
   refine Xh (v := .bool false) rfl rfl ?_
   refine Xa ?_
   refine Xs ?_
   refine Yi ?_
   refine ⟨.bool false, Yq rfl rfl, ?_, hb117⟩
   exact congrArg Value.bool (decide_eq_false (fun h => of_decide_eq_false h119 (congrArg Th.lab h))).symm
  ·
   have h121 := Zh h118
   have h122 := of_decide_eq_true h121
   refine Xy ?_
   refine Xv ?_
   refine Xt ?_
   refine Xb ?_
   refine Xd (o' := 3) Z6 rfl rfl rfl ?_
   have k123 := (k109.grown0 hg116)
   refine Xi (v := .int .i64 m.t.ve) X3 rfl (k123.cell rfl) rfl ?_
   refine Xd (o' := 3) Z6 rfl rfl rfl ?_
   have k124 := (hN107.blk.grown0 hg116)
   refine Xi (v := .int .i64 p.t.ve) X3 rfl (k124.cell rfl) rfl ?_
   refine Y7 (q := !(decide (m.t.ve = p.t.ve))) rfl rfl rfl rfl ?_
   refine Xa ?_
   refine Xw rfl (fun h125 => ?_) (fun h125 => ?_)
   ·
    have h126 := Zn h125
    have h127 := of_decide_eq_false h126
    refine Xb ?_
    refine Xh (v := .bool false) rfl rfl ?_
    refine Xa ?_
    refine Xs ?_
    refine Yi ?_
    refine ⟨.bool false, Yq rfl rfl, ?_, hb117⟩
    exact congrArg Value.bool (decide_eq_false (fun h => of_decide_eq_false h126 (congrArg Th.ve h))).symm
   ·
    have h128 := Zh h125
    have h129 := of_decide_eq_true h128
    refine Xy ?_
    refine Xv ?_
    refine Xt ?_
    refine Xb ?_
    refine Xd (o' := 4) Qm rfl rfl rfl ?_
    refine Xi (v := .int .i64 m.t.num) X3 rfl (k123.cell rfl) rfl ?_
    refine Xd (o' := 4) Qm rfl rfl rfl ?_
    refine Xi (v := .int .i64 p.t.num) X3 rfl (k124.cell rfl) rfl ?_
    refine Y7 (q := !(decide (m.t.num = p.t.num))) rfl rfl rfl rfl ?_
    refine Xa ?_
    refine Xw rfl (fun h130 => ?_) (fun h130 => ?_)
    ·
     have h131 := Zn h130
     have h132 := of_decide_eq_false h131
     refine Xb ?_
     refine Xh (v := .bool false) rfl rfl ?_
     refine Xa ?_
     refine Xs ?_
     refine Yi ?_
     refine ⟨.bool false, Yq rfl rfl, ?_, hb117⟩
     exact congrArg Value.bool (decide_eq_false (fun h => of_decide_eq_false h131 (congrArg Th.num h))).symm
    ·
     have h133 := Zh h130
     have h134 := of_decide_eq_true h133
     refine Xy ?_
     refine Xv ?_
     refine Xt ?_
     refine Xb ?_
     refine Xd (o' := 5) Zt rfl rfl rfl ?_
     refine Xi (v := .slice m.sa m.t.slots.length m.sc) Qq rfl (k123.cell rfl) rfl ?_
     refine Xd (o' := 5) Zt rfl rfl rfl ?_
     refine Xi (v := .slice p.sa p.t.slots.length p.sc) Qq rfl (k124.cell rfl) rfl ?_
     refine Xn (vs := [.slice m.sa m.t.slots.length m.sc, .slice p.sa p.t.slots.length p.sc]) M3 (Xg rfl (Xg rfl Xm)) rfl (Hm _ m.t.slots p.t.slots _ _ _ _ (SlAt.low ha.1 hb117) (SlAt.low hb.1 hb117) (by first | omega | exact Nat.le_of_ble_eq_true rfl | (simp only [List.length_nil, List.length_cons, List.length_append, List.length_replicate]; omega)) (by first | omega | exact Nat.le_of_ble_eq_true rfl | (simp only [List.length_nil, List.length_cons, List.length_append, List.length_replicate]; omega))) ?_
     rintro _ w135 ⟨rfl, hg136⟩
     have hb137 := low0 hb117 hg136
     refine Yk (b' := !(decide (m.t.slots = p.t.slots))) rfl rfl rfl ?_
     refine Xa ?_
     refine Xw rfl (fun h138 => ?_) (fun h138 => ?_)
     ·
      have h139 := Zn h138
      have h140 := of_decide_eq_false h139
      refine Xb ?_
      refine Xh (v := .bool false) rfl rfl ?_
      refine Xa ?_
      refine Xs ?_
      refine Yi ?_
      refine ⟨.bool false, Yq rfl rfl, ?_, hb137⟩
      exact congrArg Value.bool (decide_eq_false (fun h => of_decide_eq_false h139 (congrArg Th.slots h))).symm
     ·
      have h141 := Zh h138
      have h142 := of_decide_eq_true h141
      refine Xy ?_
      refine Xv ?_
      refine Xt ?_
      refine Xb ?_
      refine Xd (o' := 6) Qw rfl rfl rfl ?_
      have k143 := (k123.grown0 hg136)
      refine Xi (v := .slice m.qa m.t.queue.length m.qc) Jo rfl (k143.cell rfl) rfl ?_
      refine Xd (o' := 6) Qw rfl rfl rfl ?_
      have k144 := (k124.grown0 hg136)
      refine Xi (v := .slice p.qa p.t.queue.length p.qc) Jo rfl (k144.cell rfl) rfl ?_
      refine Xn (vs := [.slice m.qa m.t.queue.length m.qc, .slice p.qa p.t.queue.length p.qc]) M4 (Xg rfl (Xg rfl Xm)) rfl (N5 _ m.t.queue p.t.queue _ _ _ _ (SlAt.low ha.2.1 hb137) (SlAt.low hb.2.1 hb137) (by first | omega | exact Nat.le_of_ble_eq_true rfl | (simp only [List.length_nil, List.length_cons, List.length_append, List.length_replicate]; omega)) (by first | omega | exact Nat.le_of_ble_eq_true rfl | (simp only [List.length_nil, List.length_cons, List.length_append, List.length_replicate]; omega))) ?_
      rintro _ w145 ⟨rfl, hg146⟩
      have hb147 := low0 hb137 hg146
      refine Yk (b' := !(decide (m.t.queue = p.t.queue))) rfl rfl rfl ?_
      refine Xa ?_
      refine Xw rfl (fun h148 => ?_) (fun h148 => ?_)
      ·
       have h149 := Zn h148
       have h150 := of_decide_eq_false h149
       refine Xb ?_
       refine Xh (v := .bool false) rfl rfl ?_
       refine Xa ?_
       refine Xs ?_
       refine Yi ?_
       refine ⟨.bool false, Yq rfl rfl, ?_, hb147⟩
       exact congrArg Value.bool (decide_eq_false (fun h => of_decide_eq_false h149 (congrArg Th.queue h))).symm
      ·
       have h151 := Zh h148
       have h152 := of_decide_eq_true h151
       refine Xy ?_
       refine Xv ?_
       refine Xt ?_
       refine Xb ?_
       refine Xd (o' := 7) Q6 rfl rfl rfl ?_
       have k153 := (k143.grown0 hg146)
       refine Xi (v := .int .i64 m.t.to) X3 rfl (k153.cell rfl) rfl ?_
       refine Xd (o' := 7) Q6 rfl rfl rfl ?_
       have k154 := (k144.grown0 hg146)
       refine Xi (v := .int .i64 p.t.to) X3 rfl (k154.cell rfl) rfl ?_
       refine Y7 (q := !(decide (m.t.to = p.t.to))) rfl rfl rfl rfl ?_
       refine Xa ?_
       refine Xw rfl (fun h155 => ?_) (fun h155 => ?_)
       ·
        have h156 := Zn h155
        have h157 := of_decide_eq_false h156
        refine Xb ?_
        refine Xh (v := .bool false) rfl rfl ?_
        refine Xa ?_
        refine Xs ?_
        refine Yi ?_
        refine ⟨.bool false, Yq rfl rfl, ?_, hb147⟩
        exact congrArg Value.bool (decide_eq_false (fun h => of_decide_eq_false h156 (congrArg Th.to h))).symm
       ·
        have h158 := Zh h155
        have h159 := of_decide_eq_true h158
        refine Xy ?_
        refine Xv ?_
        refine Xb ?_
        refine Xh (v := .bool true) rfl rfl ?_
        refine Xa ?_
        refine Xs ?_
        refine ⟨.bool true, Yq rfl rfl, ?_, hb147⟩
        exact congrArg Value.bool (decide_eq_true (Tp (of_decide_eq_true h113) (of_decide_eq_true h121) (of_decide_eq_true h128) (of_decide_eq_true h133) (of_decide_eq_true h141) (of_decide_eq_true h151) (of_decide_eq_true h158))).symm
theorem N1 (l : Lab) (w : World) : CallsR Tryd.prog 49 #[.agg #[.int .i64 l.s, .int .i64 l.v]] w (fun v w' => v = .agg #[.int .i64 l.s, .int .i64 l.v] ∧ w.grownBy w' none) := by
 refine X0 (n := 11) Tryd.func49 rfl Tryd.ntmps49 rfl ?_
 have hb0 := World.grownBy.refl w none
 refine Xb ?_
 refine Yu (v := .agg #[.int .i64 l.s, .int .i64 l.v]) (cs := #[.int .i64 l.s, .int .i64 l.v]) rfl rfl rfl ?_
 intro B101 w102 hN103
 have hlB101 := Yf hN103 hb0
 have hb104 := low0 hb0 hN103.grw
 refine Yj (cs := #[.int .i64 0, .int .i64 0]) Lx rfl rfl ?_
 intro B105 w106 hN107
 have hlB105 := Yf hN107 hb104
 have lt_B101_B105 := Xq hN107 (hN103.blk).lt
 have hb108 := low0 hb104 hN107.grw
 refine Xa ?_
 refine Xb ?_
 refine Yj (cs := #[.int .i64 0, .int .i64 0]) Lx rfl rfl ?_
 intro B109 w110 hN111
 have hlB109 := Yf hN111 hb108
 have k112 := (hN103.blk.grown0 hN107.grw)
 have lt_B101_B109 := Xq hN111 (k112).lt
 have lt_B105_B109 := Xq hN111 (hN107.blk).lt
 have hb113 := low0 hb108 hN111.grw
 refine Xa ?_
 refine Xb ?_
 refine Xd (o' := 0) Sk rfl rfl rfl ?_
 have k114 := (k112.grown0 hN111.grw)
 refine Xi (v := .int .i64 l.s) X3 rfl (k114.cell rfl) rfl ?_
 refine Xd (o' := 0) Jh rfl rfl rfl ?_
 refine Yc (v := .int .i64 l.s) (cs' := #[.int .i64 l.s, .int .i64 0]) X3 rfl rfl rfl hN111.blk (Nat.le_of_ble_eq_true rfl) rfl ?_
 intro w115 hS116
 have hb117 := low1 hb113 hS116.grw (by omega)
 refine Xa ?_
 refine Xb ?_
 refine Xd (o' := 1) R3 rfl rfl rfl ?_
 have k118 := (k114.grown hS116.grw (Xf (by omega)))
 refine Xi (v := .int .i64 l.v) X3 rfl (k118.cell rfl) rfl ?_
 refine Xd (o' := 1) Jw rfl rfl rfl ?_
 refine Yc (v := .int .i64 l.v) (cs' := #[.int .i64 l.s, .int .i64 l.v]) X3 rfl rfl rfl hS116.blk (Nat.le_of_ble_eq_true rfl) rfl ?_
 intro w119 hS120
 have hb121 := low1 hb117 hS120.grw (by omega)
 refine Xa ?_
 refine Xb ?_
 refine Xu (vs := [.int .i64 l.s, .int .i64 l.v]) Qd rfl rfl (hS120.blk.rangeL 0 2 rfl) rfl ?_
 have k122 := (((hN107.blk.grown0 hN111.grw).grown hS116.grw (Xf (by omega))).grown hS120.grw (Xf (by omega)))
 refine Xz (vs := [.int .i64 l.s, .int .i64 l.v]) (cs' := #[.int .i64 l.s, .int .i64 l.v]) Qd rfl rfl rfl (by simp [Value.oneCell']) k122 (Nat.le_of_ble_eq_true rfl) rfl ?_
 intro w123 hS124
 have hb125 := low1 hb121 hS124.grw (by omega)
 refine Xa ?_
 refine Xs ?_
 refine ⟨.agg #[.int .i64 l.s, .int .i64 l.v], Zx rfl (Yh (vs := [.int .i64 l.s, .int .i64 l.v]) Qd rfl rfl (hS124.blk.rangeL 0 2 rfl)), ?_, hb125⟩
 rfl
end Go.Proofs.YtfoplmgoiblkgaaDoor
end
section
namespace Go.Proofs.YtfoplmgoiblkgaaDoor
open Go.RowKit Go.Dw
set_option maxRecDepth 100000
set_option maxHeartbeats 4000000
set_option linter.unusedSimpArgs false
set_option linter.unusedVariables false
theorem H5 (p : Int) (hp : 0 ≤ p ∧ p ≤ 1000000000000) (lo R : Nat) (bs : List Int) (a : Option Addr) (c : Nat) (w : World) (hR : Blk w R 108 #[.slice a bs.length c, .int .i64 p]) (hlo : lo ≤ R) (hs : SlLt lo w a 1 (bs.map bcell)) (hb : ∀ b ∈ bs, 0 ≤ b ∧ b ≤ 255) (hn : bs.length ≤ 1048576) : CallsR Tryd.prog 92 #[.pointer (some ⟨R, 0, none⟩)] w (fun v w' => ∃ (l : Lab) (p' : Int), v = .agg #[.int .i64 l.s, .int .i64 l.v] ∧ -1 ≤ l.s ∧ l.s ≤ 4 ∧ 0 ≤ l.v ∧ l.v ≤ 3 ∧ p ≤ p' ∧ p' ≤ p + 4 ∧ Blk w' R 108 #[.slice a bs.length c, .int .i64 p'] ∧ w.grownBy w' (some R)) := by
 refine X0 (n := 25) Tryd.func92 rfl Tryd.ntmps92 rfl ?_
 have hb0 := World.grownBy.refl w (some R)
 have hRlt := hR.lt
 refine Xb ?_
 refine Yj (cs := #[.int .i64 0, .int .i64 0]) Lx rfl rfl ?_
 intro B101 w102 hN103
 have hlB101 := Yf hN103 hb0
 have lt_R_B101 := Xq hN103 (hR).lt
 have hb104 := low0 hb0 hN103.grw
 refine Xa ?_
 refine Xt ?_
 have k271 := (hR.grown0 hN103.grw)
 refine Qs (m := 12) [[], [], [1], [0, 1, 2], [0, 1, 2, 3], [], [], [1, 2, 6], [1, 2, 5, 6, 7], [1, 2, 5, 6, 7, 8], [0, 1, 2, 3, 4, 5, 6, 7, 8, 9], [], [0, 1, 2, 3, 4, 5, 6, 7, 8, 9, 10, 11]] (fun S F w' => ∃ (B231 : Nat) (k237 : Int) (x245 : Int) (B248 : Nat) (k254 : Int) (x262 : Int) (B265 : Nat), w102.grownBy w' (some R) ∧ F 0 = .pointer (some ⟨R, 0, none⟩) ∧ F 2 = .pointer (some ⟨B101, 0, none⟩) ∧ (S 2 = false → Blk w' R 108 #[.slice a bs.length c, .int .i64 p]) ∧ (S 0 = true → F 4 = .slice (some ⟨B231, 0, none⟩) 5 5 ∧ w.heap.size ≤ B231 ∧ Blk w' B231 3 (([0, 0, 1, 2, 3] : List Int).flatMap icell).toArray ∧ R < B231 ∧ B101 < B231 ∧ w102.heap.size ≤ B231) ∧ (S 1 = true → F 5 = .pointer (some ⟨R, 0, none⟩)) ∧ (S 2 = true → F 6 = .int .i64 k237 ∧ 0 ≤ k237 ∧ (k237 < 5 ∨ k237 = 0) ∧ (S 7 = false → Blk w' R 108 #[.slice a bs.length c, .int .i64 (p + 1)])) ∧ (S 3 = true → F 7 = .pointer (some ⟨B231, (k237).toNat * 1, none⟩)) ∧ (S 4 = true → F 8 = .int .i64 x245 ∧ ([0, 0, 1, 2, 3] : List Int)[(k237).toNat]? = some x245 ∧ (x245 = 0 ∨ x245 = 0 ∨ x245 = 1 ∨ x245 = 2 ∨ x245 = 3)) ∧ (S 5 = true → F 9 = .slice (some ⟨B248, 0, none⟩) 4 4 ∧ w.heap.size ≤ B248 ∧ Blk w' B248 3 (([0, 0, 3, 1] : List Int).flatMap icell).toArray ∧ R < B248 ∧ B101 < B248 ∧ w102.heap.size ≤ B248) ∧ (S 6 = true → F 10 = .pointer (some ⟨R, 0, none⟩)) ∧ (S 7 = true → F 11 = .int .i64 k254 ∧ 0 ≤ k254 ∧ (k254 < 4 ∨ k254 = 0) ∧ Blk w' R 108 #[.slice a bs.length c, .int .i64 (p + 1 + 1)]) ∧ (S 8 = true → F 12 = .pointer (some ⟨B248, (k254).toNat * 1, none⟩)) ∧ (S 9 = true → F 13 = .int .i64 x262 ∧ ([0, 0, 3, 1] : List Int)[(k254).toNat]? = some x262 ∧ (x262 = 0 ∨ x262 = 0 ∨ x262 = 3 ∨ x262 = 1)) ∧ (S 10 = true → F 14 = .agg #[.int .i64 x245, .int .i64 x262]) ∧ (S 11 = true → F 3 = .pointer (some ⟨B265, 0, none⟩) ∧ w.heap.size ≤ B265 ∧ Blk w' B265 39 #[.int .i64 0, .int .i64 0] ∧ R < B265 ∧ B101 < B265 ∧ w102.heap.size ≤ B265) ∧ (S 0 = true → S 5 = true → B231 ≠ B248) ∧ (S 0 = true → S 11 = true → B231 ≠ B265) ∧ (S 5 = true → S 11 = true → B248 ≠ B265)) Zi (by kernel_rfl) ⟨0, 0, 0, 0, 0, 0, 0, Yl _, rfl, rfl, fun _ => (k271).grown0 (Yl _), fun h => X5 h, fun h => X5 h, fun h => X5 h, fun h => X5 h, fun h => X5 h, fun h => X5 h, fun h => X5 h, fun h => X5 h, fun h => X5 h, fun h => X5 h, fun h => X5 h, fun h => X5 h, fun h => X5 h, fun h => X5 h, fun h => X5 h⟩ ?_ ?_
 ·
  refine X6 (fun S F w272 hS hbef hcl hI => ?_) ?_
  ·
   obtain ⟨B231, k237, x245, B248, k254, x262, B265, hi273, e274, e275, c_old_R, c_0, c_1, c_2, c_3, c_4, c_5, c_6, c_7, c_8, c_9, c_10, c_11, pr_B231_B248, pr_B231_B265, pr_B248_B265⟩ := hI
   have hb276 := grown_trans hb104 hi273
   refine X7 (ps := [(0, .int .i64 0), (1, .int .i64 0), (2, .int .i64 1), (3, .int .i64 2), (4, .int .i64 3)]) (e := 3) (cs := (([0, 0, 1, 2, 3] : List Int).flatMap icell).toArray) (Xp rfl (Xp rfl (Xp rfl (Xp rfl (Xp rfl X9))))) (fun _ => by kernel_rfl) rfl ?_
   intro B277 w278 hN279
   have hlB277 := Yf hN279 hb276
   have k280 := (hN103.blk.grown hi273 (Xf (by omega)))
   have lt_B101_B277 := Xq hN279 (k280).lt
   have hb281 := low0 hb276 hN279.grw
   exact Xa ⟨B277, k237, x245, B248, k254, x262, B265, (low0 hi273 hN279.grw), e274, e275, fun h => (c_old_R h).grown0 hN279.grw, fun _ => ⟨rfl, hlB277, hN279.blk, (by omega), lt_B101_B277, (Nat.le_trans hi273.size (Nat.le_of_eq hN279.eq.symm))⟩, c_1, fun h => let ⟨y282, y283, y284, y285⟩ := c_2 h; ⟨y282, y283, y284, fun hn => (y285 hn).grown0 hN279.grw⟩, fun h => Xx 3 hS hcl rfl h, fun h => Xx 4 hS hcl rfl h, fun h => let ⟨y286, y287, y288, y289, y290, y291⟩ := c_5 h; ⟨y286, y287, (y288).grown0 hN279.grw, y289, y290, y291⟩, c_6, fun h => let ⟨y292, y293, y294, y295⟩ := c_7 h; ⟨y292, y293, y294, (y295).grown0 hN279.grw⟩, c_8, c_9, fun h => Xx 10 hS hcl rfl h, fun h => let ⟨y296, y297, y298, y299, y300, y301⟩ := c_11 h; ⟨y296, y297, (y298).grown0 hN279.grw, y299, y300, y301⟩, fun _ h => let ⟨y302, y303, y304, y305, y306, y307⟩ := c_5 h; Nat.ne_of_gt (Nat.lt_of_lt_of_le (Blk.lt y304) (Nat.le_of_eq hN279.eq.symm)), fun _ h => let ⟨y308, y309, y310, y311, y312, y313⟩ := c_11 h; Nat.ne_of_gt (Nat.lt_of_lt_of_le (Blk.lt y310) (Nat.le_of_eq hN279.eq.symm)), pr_B248_B265⟩
  refine X6 (fun S F w314 hS hbef hcl hI => ?_) ?_
  ·
   obtain ⟨B231, k237, x245, B248, k254, x262, B265, hi315, e316, e317, c_old_R, c_0, c_1, c_2, c_3, c_4, c_5, c_6, c_7, c_8, c_9, c_10, c_11, pr_B231_B248, pr_B231_B265, pr_B248_B265⟩ := hI
   have hb318 := grown_trans hb104 hi315
   refine Xc (v := .pointer (some ⟨R, 0, none⟩)) e316 rfl ?_
   exact Xa ⟨B231, k237, x245, B248, k254, x262, B265, hi315, e316, e317, fun h => c_old_R h, c_0, fun _ => rfl, fun h => Xx 2 hS hcl rfl h, fun h => Xx 3 hS hcl rfl h, fun h => Xx 4 hS hcl rfl h, c_5, c_6, fun h => Xx 7 hS hcl rfl h, fun h => Xx 8 hS hcl rfl h, fun h => Xx 9 hS hcl rfl h, fun h => Xx 10 hS hcl rfl h, c_11, pr_B231_B248, pr_B231_B265, pr_B248_B265⟩
  refine X6 (fun S F w319 hS hbef hcl hI => ?_) ?_
  ·
   obtain ⟨B231, k237, x245, B248, k254, x262, B265, hi320, e321, e322, c_old_R, c_0, c_1, c_2, c_3, c_4, c_5, c_6, c_7, c_8, c_9, c_10, c_11, pr_B231_B248, pr_B231_B265, pr_B248_B265⟩ := hI
   have hb323 := grown_trans hb104 hi320
   obtain e324 := c_1 (Xo 1 hbef rfl)
   refine Xn (vs := [.pointer (some ⟨R, 0, none⟩), .int .i64 5]) Y1 (Xg e324 (Xg rfl Xm)) rfl (Yr p 5 (by omega) _ R bs _ _ _ (c_old_R hS) (by omega) (SlLt.low1 hs hb323 hlo) (by first | exact hb | exact fun b h => hb b (List.mem_of_mem_take h)) (by first | omega | (rw [List.length_take]; omega))) ?_
   rintro _ w330 ⟨k325, rfl, hk326, hk327, kR328, hg329⟩
   have hb331 := grown_trans hb323 hg329
   exact Xa ⟨B231, k325, x245, B248, k254, x262, B265, (grown_trans hi320 hg329), e321, e322, fun h => Qh h, fun h => let ⟨y332, y333, y334, y335, y336, y337⟩ := c_0 h; ⟨y332, y333, (y334).grown hg329 (Xf (by omega)), y335, y336, y337⟩, c_1, fun _ => ⟨rfl, hk326, hk327, fun _ => kR328⟩, fun h => Xx 3 hS hcl rfl h, fun h => Xx 4 hS hcl rfl h, fun h => let ⟨y338, y339, y340, y341, y342, y343⟩ := c_5 h; ⟨y338, y339, (y340).grown hg329 (Xf (by omega)), y341, y342, y343⟩, c_6, fun h => Xx 7 hS hcl rfl h, fun h => Xx 8 hS hcl rfl h, fun h => Xx 9 hS hcl rfl h, fun h => Xx 10 hS hcl rfl h, fun h => let ⟨y344, y345, y346, y347, y348, y349⟩ := c_11 h; ⟨y344, y345, (y346).grown hg329 (Xf (by omega)), y347, y348, y349⟩, pr_B231_B248, pr_B231_B265, pr_B248_B265⟩
  refine X6 (fun S F w350 hS hbef hcl hI => ?_) ?_
  ·
   obtain ⟨B231, k237, x245, B248, k254, x262, B265, hi351, e352, e353, c_old_R, c_0, c_1, c_2, c_3, c_4, c_5, c_6, c_7, c_8, c_9, c_10, c_11, pr_B231_B248, pr_B231_B265, pr_B248_B265⟩ := hI
   have hb354 := grown_trans hb104 hi351
   obtain ⟨e355, hlB231, kb_B231, lt_R_B231, lt_B101_B231, hk_B231⟩ := c_0 (Xo 0 hbef rfl)
   obtain e356 := c_1 (Xo 1 hbef rfl)
   obtain ⟨e357, hk238, hk239, ks2_R⟩ := c_2 (Xo 2 hbef rfl)
   refine X8 (o' := (k237).toNat * 1) Qa e355 e357 (by omega) (by omega) (by omega) rfl ?_
   exact Xa ⟨B231, k237, x245, B248, k254, x262, B265, hi351, e352, e353, fun hn => Qh ((Xo 2 hbef rfl).symm.trans hn), c_0, c_1, c_2, fun _ => rfl, fun h => Xx 4 hS hcl rfl h, c_5, c_6, c_7, c_8, c_9, fun h => Xx 10 hS hcl rfl h, c_11, pr_B231_B248, pr_B231_B265, pr_B248_B265⟩
  refine X6 (fun S F w358 hS hbef hcl hI => ?_) ?_
  ·
   obtain ⟨B231, k237, x245, B248, k254, x262, B265, hi359, e360, e361, c_old_R, c_0, c_1, c_2, c_3, c_4, c_5, c_6, c_7, c_8, c_9, c_10, c_11, pr_B231_B248, pr_B231_B265, pr_B248_B265⟩ := hI
   have hb362 := grown_trans hb104 hi359
   obtain ⟨e363, hlB231, kb_B231, lt_R_B231, lt_B101_B231, hk_B231⟩ := c_0 (Xo 0 hbef rfl)
   obtain e364 := c_1 (Xo 1 hbef rfl)
   obtain ⟨e365, hk238, hk239, ks2_R⟩ := c_2 (Xo 2 hbef rfl)
   obtain e366 := c_3 (Xo 3 hbef rfl)
   obtain ⟨x367, hx368⟩ := Zf (l := ([0, 0, 1, 2, 3] : List Int)) (i := (k237).toNat) (show (k237).toNat < 5 by omega)
   have hm369 := List.mem_of_getElem? hx368
   simp only [List.mem_cons, List.not_mem_nil, or_false] at hm369
   refine Xi (v := .int .i64 x367) X3 e366 ((Y9 Ys kb_B231 hx368) 0 _ rfl) rfl ?_
   exact Xa ⟨B231, k237, x367, B248, k254, x262, B265, hi359, e360, e361, fun hn => Qh ((Xo 2 hbef rfl).symm.trans hn), c_0, c_1, c_2, c_3, fun _ => ⟨rfl, hx368, hm369⟩, c_5, c_6, c_7, c_8, c_9, fun h => Xx 10 hS hcl rfl h, c_11, pr_B231_B248, pr_B231_B265, pr_B248_B265⟩
  refine X6 (fun S F w370 hS hbef hcl hI => ?_) ?_
  ·
   obtain ⟨B231, k237, x245, B248, k254, x262, B265, hi371, e372, e373, c_old_R, c_0, c_1, c_2, c_3, c_4, c_5, c_6, c_7, c_8, c_9, c_10, c_11, pr_B231_B248, pr_B231_B265, pr_B248_B265⟩ := hI
   have hb374 := grown_trans hb104 hi371
   refine X7 (ps := [(0, .int .i64 0), (1, .int .i64 0), (2, .int .i64 3), (3, .int .i64 1)]) (e := 3) (cs := (([0, 0, 3, 1] : List Int).flatMap icell).toArray) (Xp rfl (Xp rfl (Xp rfl (Xp rfl X9)))) (fun _ => by kernel_rfl) rfl ?_
   intro B375 w376 hN377
   have hlB375 := Yf hN377 hb374
   have k378 := (hN103.blk.grown hi371 (Xf (by omega)))
   have lt_B101_B375 := Xq hN377 (k378).lt
   have hb379 := low0 hb374 hN377.grw
   exact Xa ⟨B231, k237, x245, B375, k254, x262, B265, (low0 hi371 hN377.grw), e372, e373, fun h => (c_old_R h).grown0 hN377.grw, fun h => let ⟨y380, y381, y382, y383, y384, y385⟩ := c_0 h; ⟨y380, y381, (y382).grown0 hN377.grw, y383, y384, y385⟩, c_1, fun h => let ⟨y386, y387, y388, y389⟩ := c_2 h; ⟨y386, y387, y388, fun hn => (y389 hn).grown0 hN377.grw⟩, c_3, c_4, fun _ => ⟨rfl, hlB375, hN377.blk, (by omega), lt_B101_B375, (Nat.le_trans hi371.size (Nat.le_of_eq hN377.eq.symm))⟩, c_6, fun h => let ⟨y390, y391, y392, y393⟩ := c_7 h; ⟨y390, y391, y392, (y393).grown0 hN377.grw⟩, fun h => Xx 8 hS hcl rfl h, fun h => Xx 9 hS hcl rfl h, fun h => Xx 10 hS hcl rfl h, fun h => let ⟨y394, y395, y396, y397, y398, y399⟩ := c_11 h; ⟨y394, y395, (y396).grown0 hN377.grw, y397, y398, y399⟩, fun h _ => let ⟨y400, y401, y402, y403, y404, y405⟩ := c_0 h; Nat.ne_of_lt (Nat.lt_of_lt_of_le (Blk.lt y402) (Nat.le_of_eq hN377.eq.symm)), pr_B231_B265, fun _ h => let ⟨y406, y407, y408, y409, y410, y411⟩ := c_11 h; Nat.ne_of_gt (Nat.lt_of_lt_of_le (Blk.lt y408) (Nat.le_of_eq hN377.eq.symm))⟩
  refine X6 (fun S F w412 hS hbef hcl hI => ?_) ?_
  ·
   obtain ⟨B231, k237, x245, B248, k254, x262, B265, hi413, e414, e415, c_old_R, c_0, c_1, c_2, c_3, c_4, c_5, c_6, c_7, c_8, c_9, c_10, c_11, pr_B231_B248, pr_B231_B265, pr_B248_B265⟩ := hI
   have hb416 := grown_trans hb104 hi413
   refine Xc (v := .pointer (some ⟨R, 0, none⟩)) e414 rfl ?_
   exact Xa ⟨B231, k237, x245, B248, k254, x262, B265, hi413, e414, e415, fun h => c_old_R h, c_0, c_1, c_2, c_3, c_4, c_5, fun _ => rfl, fun h => Xx 7 hS hcl rfl h, fun h => Xx 8 hS hcl rfl h, fun h => Xx 9 hS hcl rfl h, fun h => Xx 10 hS hcl rfl h, c_11, pr_B231_B248, pr_B231_B265, pr_B248_B265⟩
  refine X6 (fun S F w417 hS hbef hcl hI => ?_) ?_
  ·
   obtain ⟨B231, k237, x245, B248, k254, x262, B265, hi418, e419, e420, c_old_R, c_0, c_1, c_2, c_3, c_4, c_5, c_6, c_7, c_8, c_9, c_10, c_11, pr_B231_B248, pr_B231_B265, pr_B248_B265⟩ := hI
   have hb421 := grown_trans hb104 hi418
   obtain e422 := c_1 (Xo 1 hbef rfl)
   obtain ⟨e423, hk238, hk239, ks2_R⟩ := c_2 (Xo 2 hbef rfl)
   obtain e424 := c_6 (Xo 6 hbef rfl)
   refine Xn (vs := [.pointer (some ⟨R, 0, none⟩), .int .i64 4]) Y1 (Xg e424 (Xg rfl Xm)) rfl (Yr (p + 1) 4 (by omega) _ R bs _ _ _ (ks2_R hS) (by omega) (SlLt.low1 hs hb421 hlo) (by first | exact hb | exact fun b h => hb b (List.mem_of_mem_take h)) (by first | omega | (rw [List.length_take]; omega))) ?_
   rintro _ w430 ⟨k425, rfl, hk426, hk427, kR428, hg429⟩
   have hb431 := grown_trans hb421 hg429
   exact Xa ⟨B231, k237, x245, B248, k425, x262, B265, (grown_trans hi418 hg429), e419, e420, fun hn => Qh ((Xo 2 hbef rfl).symm.trans hn), fun h => let ⟨y432, y433, y434, y435, y436, y437⟩ := c_0 h; ⟨y432, y433, (y434).grown hg429 (Xf (by omega)), y435, y436, y437⟩, c_1, fun h => let ⟨y438, y439, y440, y441⟩ := c_2 h; ⟨y438, y439, y440, fun h => Qh h⟩, c_3, c_4, fun h => let ⟨y442, y443, y444, y445, y446, y447⟩ := c_5 h; ⟨y442, y443, (y444).grown hg429 (Xf (by omega)), y445, y446, y447⟩, c_6, fun _ => ⟨rfl, hk426, hk427, kR428⟩, fun h => Xx 8 hS hcl rfl h, fun h => Xx 9 hS hcl rfl h, fun h => Xx 10 hS hcl rfl h, fun h => let ⟨y448, y449, y450, y451, y452, y453⟩ := c_11 h; ⟨y448, y449, (y450).grown hg429 (Xf (by omega)), y451, y452, y453⟩, pr_B231_B248, pr_B231_B265, pr_B248_B265⟩
  refine X6 (fun S F w454 hS hbef hcl hI => ?_) ?_
  ·
   obtain ⟨B231, k237, x245, B248, k254, x262, B265, hi455, e456, e457, c_old_R, c_0, c_1, c_2, c_3, c_4, c_5, c_6, c_7, c_8, c_9, c_10, c_11, pr_B231_B248, pr_B231_B265, pr_B248_B265⟩ := hI
   have hb458 := grown_trans hb104 hi455
   obtain e459 := c_1 (Xo 1 hbef rfl)
   obtain ⟨e460, hk238, hk239, ks2_R⟩ := c_2 (Xo 2 hbef rfl)
   obtain ⟨e461, hlB248, kb_B248, lt_R_B248, lt_B101_B248, hk_B248⟩ := c_5 (Xo 5 hbef rfl)
   obtain e462 := c_6 (Xo 6 hbef rfl)
   obtain ⟨e463, hk255, hk256, ks7_R⟩ := c_7 (Xo 7 hbef rfl)
   refine X8 (o' := (k254).toNat * 1) Qa e461 e463 (by omega) (by omega) (by omega) rfl ?_
   exact Xa ⟨B231, k237, x245, B248, k254, x262, B265, hi455, e456, e457, fun hn => Qh ((Xo 2 hbef rfl).symm.trans hn), c_0, c_1, c_2, c_3, c_4, c_5, c_6, c_7, fun _ => rfl, fun h => Xx 9 hS hcl rfl h, fun h => Xx 10 hS hcl rfl h, c_11, pr_B231_B248, pr_B231_B265, pr_B248_B265⟩
  refine X6 (fun S F w464 hS hbef hcl hI => ?_) ?_
  ·
   obtain ⟨B231, k237, x245, B248, k254, x262, B265, hi465, e466, e467, c_old_R, c_0, c_1, c_2, c_3, c_4, c_5, c_6, c_7, c_8, c_9, c_10, c_11, pr_B231_B248, pr_B231_B265, pr_B248_B265⟩ := hI
   have hb468 := grown_trans hb104 hi465
   obtain e469 := c_1 (Xo 1 hbef rfl)
   obtain ⟨e470, hk238, hk239, ks2_R⟩ := c_2 (Xo 2 hbef rfl)
   obtain ⟨e471, hlB248, kb_B248, lt_R_B248, lt_B101_B248, hk_B248⟩ := c_5 (Xo 5 hbef rfl)
   obtain e472 := c_6 (Xo 6 hbef rfl)
   obtain ⟨e473, hk255, hk256, ks7_R⟩ := c_7 (Xo 7 hbef rfl)
   obtain e474 := c_8 (Xo 8 hbef rfl)
   obtain ⟨x475, hx476⟩ := Zf (l := ([0, 0, 3, 1] : List Int)) (i := (k254).toNat) (show (k254).toNat < 4 by omega)
   have hm477 := List.mem_of_getElem? hx476
   simp only [List.mem_cons, List.not_mem_nil, or_false] at hm477
   refine Xi (v := .int .i64 x475) X3 e474 ((Y9 Ys kb_B248 hx476) 0 _ rfl) rfl ?_
   exact Xa ⟨B231, k237, x245, B248, k254, x475, B265, hi465, e466, e467, fun hn => Qh ((Xo 2 hbef rfl).symm.trans hn), c_0, c_1, c_2, c_3, c_4, c_5, c_6, c_7, c_8, fun _ => ⟨rfl, hx476, hm477⟩, fun h => Xx 10 hS hcl rfl h, c_11, pr_B231_B248, pr_B231_B265, pr_B248_B265⟩
  refine X6 (fun S F w478 hS hbef hcl hI => ?_) ?_
  ·
   obtain ⟨B231, k237, x245, B248, k254, x262, B265, hi479, e480, e481, c_old_R, c_0, c_1, c_2, c_3, c_4, c_5, c_6, c_7, c_8, c_9, c_10, c_11, pr_B231_B248, pr_B231_B265, pr_B248_B265⟩ := hI
   have hb482 := grown_trans hb104 hi479
   obtain ⟨e483, hlB231, kb_B231, lt_R_B231, lt_B101_B231, hk_B231⟩ := c_0 (Xo 0 hbef rfl)
   obtain e484 := c_1 (Xo 1 hbef rfl)
   obtain ⟨e485, hk238, hk239, ks2_R⟩ := c_2 (Xo 2 hbef rfl)
   obtain e486 := c_3 (Xo 3 hbef rfl)
   obtain ⟨e487, hx246, hm247⟩ := c_4 (Xo 4 hbef rfl)
   obtain ⟨e488, hlB248, kb_B248, lt_R_B248, lt_B101_B248, hk_B248⟩ := c_5 (Xo 5 hbef rfl)
   obtain e489 := c_6 (Xo 6 hbef rfl)
   obtain ⟨e490, hk255, hk256, ks7_R⟩ := c_7 (Xo 7 hbef rfl)
   obtain e491 := c_8 (Xo 8 hbef rfl)
   obtain ⟨e492, hx263, hm264⟩ := c_9 (Xo 9 hbef rfl)
   have ne_B231_B248 := pr_B231_B248 (Xo 0 hbef rfl) (Xo 5 hbef rfl)
   refine Yw (ps := [(0, .int .i64 x245), (1, .int .i64 x262)]) (v := .agg #[.int .i64 x245, .int .i64 x262]) (Xp e487 (Xp e492 X9)) (by kernel_rfl) rfl ?_
   exact Xa ⟨B231, k237, x245, B248, k254, x262, B265, hi479, e480, e481, fun hn => Qh ((Xo 2 hbef rfl).symm.trans hn), c_0, c_1, c_2, c_3, c_4, c_5, c_6, c_7, c_8, c_9, fun _ => rfl, c_11, pr_B231_B248, pr_B231_B265, pr_B248_B265⟩
  refine X6 (fun S F w493 hS hbef hcl hI => ?_) ?_
  ·
   obtain ⟨B231, k237, x245, B248, k254, x262, B265, hi494, e495, e496, c_old_R, c_0, c_1, c_2, c_3, c_4, c_5, c_6, c_7, c_8, c_9, c_10, c_11, pr_B231_B248, pr_B231_B265, pr_B248_B265⟩ := hI
   have hb497 := grown_trans hb104 hi494
   refine Yj (cs := #[.int .i64 0, .int .i64 0]) Lx rfl rfl ?_
   intro B498 w499 hN500
   have hlB498 := Yf hN500 hb497
   have k501 := (hN103.blk.grown hi494 (Xf (by omega)))
   have lt_B101_B498 := Xq hN500 (k501).lt
   have hb502 := low0 hb497 hN500.grw
   exact Xa ⟨B231, k237, x245, B248, k254, x262, B498, (low0 hi494 hN500.grw), e495, e496, fun h => (c_old_R h).grown0 hN500.grw, fun h => let ⟨y503, y504, y505, y506, y507, y508⟩ := c_0 h; ⟨y503, y504, (y505).grown0 hN500.grw, y506, y507, y508⟩, c_1, fun h => let ⟨y509, y510, y511, y512⟩ := c_2 h; ⟨y509, y510, y511, fun hn => (y512 hn).grown0 hN500.grw⟩, c_3, c_4, fun h => let ⟨y513, y514, y515, y516, y517, y518⟩ := c_5 h; ⟨y513, y514, (y515).grown0 hN500.grw, y516, y517, y518⟩, c_6, fun h => let ⟨y519, y520, y521, y522⟩ := c_7 h; ⟨y519, y520, y521, (y522).grown0 hN500.grw⟩, c_8, c_9, c_10, fun _ => ⟨rfl, hlB498, hN500.blk, (by omega), lt_B101_B498, (Nat.le_trans hi494.size (Nat.le_of_eq hN500.eq.symm))⟩, pr_B231_B248, fun h _ => let ⟨y523, y524, y525, y526, y527, y528⟩ := c_0 h; Nat.ne_of_lt (Nat.lt_of_lt_of_le (Blk.lt y525) (Nat.le_of_eq hN500.eq.symm)), fun h _ => let ⟨y529, y530, y531, y532, y533, y534⟩ := c_5 h; Nat.ne_of_lt (Nat.lt_of_lt_of_le (Blk.lt y531) (Nat.le_of_eq hN500.eq.symm))⟩
  exact Q5
 ·
  intro S F w535 hall hI
  obtain ⟨B231, k237, x245, B248, k254, x262, B265, hi536, e537, e538, c_old_R, c_0, c_1, c_2, c_3, c_4, c_5, c_6, c_7, c_8, c_9, c_10, c_11, pr_B231_B248, pr_B231_B265, pr_B248_B265⟩ := hI
  have hb539 := grown_trans hb104 hi536
  obtain ⟨e540, hlB231, kb_B231, lt_R_B231, lt_B101_B231, hk_B231⟩ := c_0 (hall 0 (by decide))
  obtain e541 := c_1 (hall 1 (by decide))
  obtain ⟨e542, hk238, hk239, ks2_R⟩ := c_2 (hall 2 (by decide))
  obtain e543 := c_3 (hall 3 (by decide))
  obtain ⟨e544, hx246, hm247⟩ := c_4 (hall 4 (by decide))
  obtain ⟨e545, hlB248, kb_B248, lt_R_B248, lt_B101_B248, hk_B248⟩ := c_5 (hall 5 (by decide))
  obtain e546 := c_6 (hall 6 (by decide))
  obtain ⟨e547, hk255, hk256, ks7_R⟩ := c_7 (hall 7 (by decide))
  obtain e548 := c_8 (hall 8 (by decide))
  obtain ⟨e549, hx263, hm264⟩ := c_9 (hall 9 (by decide))
  obtain e550 := c_10 (hall 10 (by decide))
  obtain ⟨e551, hlB265, kb_B265, lt_R_B265, lt_B101_B265, hk_B265⟩ := c_11 (hall 11 (by decide))
  have ne_B231_B248 := pr_B231_B248 (hall 0 (by decide)) (hall 5 (by decide))
  have ne_B231_B265 := pr_B231_B265 (hall 0 (by decide)) (hall 11 (by decide))
  have ne_B248_B265 := pr_B248_B265 (hall 5 (by decide)) (hall 11 (by decide))
  refine Xz (vs := [.int .i64 x245, .int .i64 x262]) (cs' := #[.int .i64 x245, .int .i64 x262]) Qd e551 e550 rfl (by simp [Value.oneCell']) kb_B265 (Nat.le_of_ble_eq_true rfl) rfl ?_
  intro w552 hS553
  have hb554 := low1 hb539 hS553.grw (by omega)
  refine Xa ?_
  refine Xv ?_
  refine Xt ?_
  refine Xb ?_
  refine Xc (v := .pointer (some ⟨R, 0, none⟩)) e537 rfl ?_
  have k555 := (ks7_R.grown hS553.grw (Xf (by omega)))
  refine Xn (vs := [.pointer (some ⟨R, 0, none⟩), .int .i64 60]) Y1 (Xg rfl (Xg rfl Xm)) rfl (Yr (p + 1 + 1) 60 (by omega) _ R bs _ _ _ k555 (by omega) (SlLt.low1 hs hb554 hlo) (by first | exact hb | exact fun b h => hb b (List.mem_of_mem_take h)) (by first | omega | (rw [List.length_take]; omega))) ?_
  rintro _ w561 ⟨k556, rfl, hk557, hk558, kR559, hg560⟩
  have hb562 := grown_trans hb554 hg560
  refine X4 (q := decide (k556 = 0)) rfl rfl rfl rfl ?_
  refine Xa ?_
  refine Xw rfl (fun h563 => ?_) (fun h563 => ?_)
  ·
   have h564 := of_decide_eq_true h563
   refine X1 ?_
   refine X7 (ps := [(0, .int .i64 (-1)), (1, .int .i64 4)]) (e := 3) (cs := (([(-1), 4] : List Int).flatMap icell).toArray) (Xp rfl (Xp rfl X9)) (fun _ => by kernel_rfl) rfl ?_
   intro B565 w566 hN567
   have hlB565 := Yf hN567 hb562
   have k568 := (((hN103.blk.grown hi536 (Xf (by omega))).grown hS553.grw (Xf (by omega))).grown hg560 (Xf (by omega)))
   have lt_B101_B565 := Xq hN567 (k568).lt
   have k569 := ((kb_B231.grown hS553.grw (Xf (by omega))).grown hg560 (Xf (by omega)))
   have lt_B231_B565 := Xq hN567 (k569).lt
   have k570 := ((kb_B248.grown hS553.grw (Xf (by omega))).grown hg560 (Xf (by omega)))
   have lt_B248_B565 := Xq hN567 (k570).lt
   have lt_R_B565 := Xq hN567 (kR559).lt
   have k571 := (hS553.blk.grown hg560 (Xf (by omega)))
   have lt_B265_B565 := Xq hN567 (k571).lt
   have hb572 := low0 hb562 hN567.grw
   refine Xc (v := .pointer (some ⟨R, 0, none⟩)) e537 rfl ?_
   have k573 := (kR559.grown0 hN567.grw)
   refine Xn (vs := [.pointer (some ⟨R, 0, none⟩), .int .i64 2]) Y1 (Xg rfl (Xg rfl Xm)) rfl (Yr (p + 1 + 1 + 1) 2 (by omega) _ R bs _ _ _ k573 (by omega) (SlLt.low1 hs hb572 hlo) (by first | exact hb | exact fun b h => hb b (List.mem_of_mem_take h)) (by first | omega | (rw [List.length_take]; omega))) ?_
   rintro _ w579 ⟨k574, rfl, hk575, hk576, kR577, hg578⟩
   have hb580 := grown_trans hb572 hg578
   refine X8 (o' := (k574).toNat * 1) Qa rfl rfl (by omega) (by omega) (by omega) rfl ?_
   have k581 := (hN567.blk.grown hg578 (Xf (by omega)))
   obtain ⟨x582, hx583⟩ := Zf (l := ([(-1), 4] : List Int)) (i := (k574).toNat) (show (k574).toNat < 2 by omega)
   have hm584 := List.mem_of_getElem? hx583
   simp only [List.mem_cons, List.not_mem_nil, or_false] at hm584
   refine Xi (v := .int .i64 x582) X3 rfl ((Y9 Ys k581 hx583) 0 _ rfl) rfl ?_
   refine Xd (o' := 0) Jh e551 rfl rfl ?_
   have k585 := ((k571.grown0 hN567.grw).grown hg578 (Xf (by omega)))
   refine Yc (v := .int .i64 x582) (cs' := #[.int .i64 x582, .int .i64 x262]) X3 rfl rfl rfl k585 (Nat.le_of_ble_eq_true rfl) rfl ?_
   intro w586 hS587
   have hb588 := low1 hb580 hS587.grw (by omega)
   refine Xa ?_
   refine Xv ?_
   refine Xb ?_
   refine Xu (vs := [.int .i64 x582, .int .i64 x262]) Qd e551 rfl (hS587.blk.rangeL 0 2 rfl) rfl ?_
   have k589 := (((k568.grown0 hN567.grw).grown hg578 (Xf (by omega))).grown hS587.grw (Xf (by omega)))
   refine Xz (vs := [.int .i64 x582, .int .i64 x262]) (cs' := #[.int .i64 x582, .int .i64 x262]) Qd e538 rfl rfl (by simp [Value.oneCell']) k589 (Nat.le_of_ble_eq_true rfl) rfl ?_
   intro w590 hS591
   have hb592 := low1 hb588 hS591.grw (by omega)
   refine Xa ?_
   refine Xs ?_
   have k593 := ((kR577.grown hS587.grw (Xf (by omega))).grown hS591.grw (Xf (by omega)))
   refine ⟨.agg #[.int .i64 x582, .int .i64 x262], Zx rfl (Yh (vs := [.int .i64 x582, .int .i64 x262]) Qd e538 rfl (hS591.blk.rangeL 0 2 rfl)), ⟨x582, x262⟩, (p + 1 + 1 + 1 + 1), rfl, show (-1 : Int) ≤ x582 by omega, show x582 ≤ (4 : Int) by omega, show (0 : Int) ≤ x262 by omega, show x262 ≤ (3 : Int) by omega, by omega, by omega, k593, hb592⟩
  ·
   have h594 := of_decide_eq_false h563
   refine Xy ?_
   refine Xv ?_
   refine Xb ?_
   have k595 := (hS553.blk.grown hg560 (Xf (by omega)))
   refine Xu (vs := [.int .i64 x245, .int .i64 x262]) Qd e551 rfl (k595.rangeL 0 2 rfl) rfl ?_
   have k596 := (((hN103.blk.grown hi536 (Xf (by omega))).grown hS553.grw (Xf (by omega))).grown hg560 (Xf (by omega)))
   refine Xz (vs := [.int .i64 x245, .int .i64 x262]) (cs' := #[.int .i64 x245, .int .i64 x262]) Qd e538 rfl rfl (by simp [Value.oneCell']) k596 (Nat.le_of_ble_eq_true rfl) rfl ?_
   intro w597 hS598
   have hb599 := low1 hb562 hS598.grw (by omega)
   refine Xa ?_
   refine Xs ?_
   have k600 := (kR559.grown hS598.grw (Xf (by omega)))
   refine ⟨.agg #[.int .i64 x245, .int .i64 x262], Zx rfl (Yh (vs := [.int .i64 x245, .int .i64 x262]) Qd e538 rfl (hS598.blk.rangeL 0 2 rfl)), ⟨x245, x262⟩, (p + 1 + 1 + 1), rfl, show (-1 : Int) ≤ x245 by omega, show x245 ≤ (4 : Int) by omega, show (0 : Int) ≤ x262 by omega, show x262 ≤ (3 : Int) by omega, by omega, by omega, k600, hb599⟩
end Go.Proofs.YtfoplmgoiblkgaaDoor
end
section
namespace Go.Dw
def MTh.zero : MTh := ⟨Th.zero, none, 0, none, 0⟩
def mAt (ms : List MTh) (i : Nat) : MTh := ms.getD i MTh.zero
theorem Ya {ms : List MTh} {i : Nat} (h : i < ms.length) : ms[i]? = some (mAt ms i) := by
  unfold mAt
  rw [List.getD_eq_getElem?_getD, List.getElem?_eq_getElem h]
  rfl
def rAt (xs : List Rt) (i : Nat) : Rt := xs.getD i Rt.zero
theorem Qg {xs : List Rt} {i : Nat} (h : i < xs.length) : xs[i]? = some (rAt xs i) := by
  unfold rAt
  rw [List.getD_eq_getElem?_getD, List.getElem?_eq_getElem h]
  rfl
def thAt (ts : List Th) (k : Int) : Th := ts.getD (k - 1).toNat Th.zero
def tabT (ms : List MTh) : List Th := ms.map (·.t)
theorem Zz (ms : List MTh) : (tabT ms).length = ms.length := List.length_map _
theorem Mg (ms : List MTh) (i : Nat) : (mAt ms i).t = (tabT ms).getD i Th.zero := by
  unfold mAt tabT
  rw [List.getD_eq_getElem?_getD, List.getD_eq_getElem?_getD, List.getElem?_map]
  cases ms[i]? <;> rfl
theorem Js (ms : List MTh) (k : Int) : (mAt ms (k - 1).toNat).t = thAt (tabT ms) k := Mg ms _
def kindAt (ts : List Th) (k kd : Int) : Bool := inR k 1 (ts.length : Int) && decide ((thAt ts k).kind = kd)
def gateOk (ts : List Th) (t : Th) : Bool := !(decide (t.kind = 5)) || kindAt ts t.to 1
def rightTo (ts : List Th) (r : Rt) : Bool := decide (r.th = 0) || (inR r.th 1 (ts.length : Int) && decide (r.ve ≤ (thAt ts r.th).ve))
def tableOk (ts : List Th) : Bool := inR (ts.length : Int) 1 8 && (ts.all (fun t => thingOk t && gateOk ts t) && ts.all (fun t => t.slots.all (rightTo ts)))
theorem Jk {t : Th} (h : thingOk t = true) : inR t.kind 1 5 = true ∧ labelOk t.lab = true ∧ versOk t = true ∧ numOk t = true ∧ slotsOk t = true ∧ queueOk t = true ∧ targetOk t = true := by
  unfold thingOk at h
  simp only [Bool.and_eq_true] at h
  obtain ⟨⟨⟨⟨⟨⟨h1, h2⟩, h3⟩, h4⟩, h5⟩, h6⟩, h7⟩ := h
  exact ⟨h1, h2, h3, h4, h5, h6, h7⟩
theorem Zb {n lo hi : Int} : inR n lo hi = true ↔ lo ≤ n ∧ n ≤ hi := by simp [inR]
theorem V7 {t : Th} (h : thingOk t = true) (hk : decide (t.kind = 5) = true) : 1 ≤ t.to ∧ t.to ≤ 8 := by
  have h7 := (Jk h).2.2.2.2.2.2
  unfold targetOk at h7
  rw [if_pos (of_decide_eq_true hk)] at h7
  exact Zb.1 h7
theorem U3 {t : Th} (h : thingOk t = true) : t.slots.all rightOk = true := by
  rw [Q7] at h
  simp only [Bool.and_eq_true] at h
  exact h.1.1.2
theorem U5 {r : Rt} (h : rightOk r = true) : 0 ≤ r.th ∧ r.th ≤ 8 := by
  unfold rightOk at h
  simp only [Bool.or_eq_true, Bool.and_eq_true, decide_eq_true_eq] at h
  rcases h with rfl | ⟨⟨h1, _⟩, _⟩
  · exact ⟨by decide, by decide⟩
  · have := Zb.1 h1
    omega
theorem Uv {t : Th} {k : Nat} {r : Rt} (h : thingOk t = true) (hk : t.slots[k]? = some r) : 0 ≤ r.th ∧ r.th ≤ 8 :=
  U5 (List.all_eq_true.1 (U3 h) r (List.mem_of_getElem? hk))
def rowOk (ts : List Th) (t : Th) : Bool := (thingOk t && gateOk ts t) && t.slots.all (rightTo ts)
theorem Jv (ts : List Th) : tableOk ts = (inR (ts.length : Int) 1 8 && ts.all (rowOk ts)) := by
  unfold tableOk rowOk
  congr 1
  generalize rightTo ts = p
  rw [Bool.eq_iff_iff]
  simp only [Bool.and_eq_true, List.all_eq_true]
  exact ⟨fun h x hx => ⟨h.1 x hx, h.2 x hx⟩, fun h => ⟨fun x hx => (h x hx).1, fun x hx => (h x hx).2⟩⟩
theorem Km {ms : List MTh} {k : Nat} (h : k < ms.length) : (tabT ms)[k]? = some (mAt ms k).t := by
  unfold tabT
  rw [List.getElem?_map, Ya h]
  rfl
theorem Pv {ms : List MTh} {k : Nat} (h : k < ms.length) (hr : rowOk (tabT ms) (mAt ms k).t = false) : false = tableOk (tabT ms) := by
  rw [Jv, Qo (p := rowOk (tabT ms)) (Km h) hr, Bool.and_false]
theorem Sr {ms : List MTh} {k : Nat} (h : (((tabT ms).take k).all (rowOk (tabT ms))) = true) (hk : ms.length ≤ k) : inR (ms.length : Int) 1 8 = tableOk (tabT ms) := by
  rw [Jv, Qz h (by rw [Zz]; exact hk), Bool.and_true, Zz]
theorem Kf {ms : List MTh} {t : Th} {z : Bool} (hz : z = ((!thingOk t) || ((decide (t.kind = 5)) && ((decide ((ms.length : Int) < t.to)) || (!(decide ((mAt ms (t.to - 1).toNat).t.kind = 1))))))) :
    (z = true → rowOk (tabT ms) t = false) ∧ (z = false → thingOk t = true ∧ gateOk (tabT ms) t = true) := by
  subst hz
  cases ht : thingOk t with
  | false => simp [rowOk, ht]
  | true =>
    by_cases h5 : t.kind = 5
    · have hb := V7 ht (decide_eq_true h5)
      simp only [rowOk, gateOk, kindAt, ht, h5, Js, Zz, inR]
      by_cases hl : t.to ≤ (ms.length : Int)
      · have h1 : ¬ (ms.length : Int) < t.to := by omega
        by_cases hk : (thAt (tabT ms) t.to).kind = 1 <;> simp [h1, hl, hb.1, hk]
      · have h1 : (ms.length : Int) < t.to := by omega
        simp [h1, hl]
    · simp [gateOk, h5]
theorem Ws {ms : List MTh} {r : Rt} (h0 : 0 ≤ r.th) : ((decide ((ms.length : Int) < r.th)) || ((decide (0 < r.th)) && (decide ((mAt ms (r.th - 1).toNat).t.ve < r.ve)))) = !rightTo (tabT ms) r := by
  unfold rightTo inR
  rw [Js, Zz, Bool.eq_iff_iff]
  simp
  omega
theorem Sb {ms : List MTh} {t : Th} {k : Nat} {r : Rt} (hr : t.slots[k]? = some r) (h : rightTo (tabT ms) r = false) : rowOk (tabT ms) t = false := by
  unfold rowOk
  rw [Qo hr h, Bool.and_false]
theorem Ru {ms : List MTh} {t : Th} {j : Nat} (ht : thingOk t = true) (hg : gateOk (tabT ms) t = true) (h : ((t.slots.take j).all (rightTo (tabT ms))) = true) (hj : t.slots.length ≤ j) : rowOk (tabT ms) t = true := by
  unfold rowOk
  rw [ht, hg, Qz h hj]
  rfl
def TabLen (ms : List MTh) : Prop := ∀ m ∈ ms, m.t.slots.length ≤ 1048576 ∧ m.t.queue.length ≤ 1048576
theorem TabLen.at {ms : List MTh} (h : TabLen ms) {k : Nat} {m : MTh} (hk : ms[k]? = some m) : m.t.slots.length ≤ 1048576 ∧ m.t.queue.length ≤ 1048576 := h m (List.mem_of_getElem? hk)
end Go.Dw
end
section
namespace Go.Dw
def SlX (X : Option Nat) (w : World) (a : Option Addr) (sz : Nat) (xs : List (List Value)) : Prop := ∀ k x, xs[k]? = some x → ∃ b o, a = some ⟨b, o, none⟩ ∧ some b ≠ X ∧ w.rangeAt b (o + k * sz) x
section
variable {X : Option Nat} {w w' : World} {a : Option Addr} {sz : Nat} {xs : List (List Value)}
theorem SlX.sl (h : SlX X w a sz xs) : SlAt w a sz xs := fun k x hk => by
  obtain ⟨b, o, ha, _, hr⟩ := h k x hk
  exact ⟨b, o, ha, hr⟩
theorem SlX.low (h : SlX X w a sz xs) (hg : w.grownBy w' none) : SlX X w' a sz xs := fun k x hk => by
  obtain ⟨b, o, ha, hb, hr⟩ := h k x hk
  exact ⟨b, o, ha, hb, Z7 hr hg (by simp)⟩
theorem SlX.grown (h : SlX X w a sz xs) (hg : w.grownBy w' X) : SlX X w' a sz xs := fun k x hk => by
  obtain ⟨b, o, ha, hb, hr⟩ := h k x hk
  exact ⟨b, o, ha, hb, Z7 hr hg hb⟩
theorem SlX.nil : SlX X w a sz [] := fun k x hk => by simp at hk
theorem SlX.rows {α : Type} {g : α → List Value} (hg : Wide g sz) {ys : List α} {B : Nat} {T : TypeId} (h : Blk w B T (ys.flatMap g).toArray) (hB : some B ≠ X) : SlX X w (some ⟨B, 0, none⟩) sz (ys.map g) := fun k x hk => by
  obtain ⟨b, o, ha, hr⟩ := Qf hg h k x hk
  simp only [Option.some.injEq, Addr.mk.injEq] at ha
  obtain ⟨rfl, rfl, _⟩ := ha
  exact ⟨_, _, rfl, hB, hr⟩
theorem SlX.own {α : Type} {g : α → List Value} (hg : Wide g sz) {ys : List α} {B cap n : Nat} {T : TypeId} (h : Own w B T sz cap n (ys.flatMap g)) (hB : some B ≠ X) : SlX X w (some ⟨B, 0, none⟩) sz (ys.map g) := fun k x hk => by
  obtain ⟨b, o, ha, hr⟩ := Own.sl hg h k x hk
  simp only [Option.some.injEq, Addr.mk.injEq] at ha
  obtain ⟨rfl, rfl, _⟩ := ha
  exact ⟨_, _, rfl, hB, hr⟩
theorem SlX.ownN {α : Type} {g : α → List Value} (hg : Wide g sz) (h0 : 0 < sz) {ys : List α} {cap n lo : Nat} {T : TypeId} (h : OwnN lo w a T sz cap n (ys.flatMap g)) (hB : ∀ b, X = some b → b < lo) : SlX X w a sz (ys.map g) := fun k x hk => by
  obtain ⟨b, o, ha, hr⟩ := OwnN.sl hg h0 h k x hk
  refine ⟨b, o, ha, fun e => ?_, hr⟩
  have h1 := hB b e.symm
  rcases h.form with ⟨h2, _⟩ | ⟨B, h2, h3, _⟩
  · rw [h2] at ha; cases ha
  · rw [h2] at ha
    simp only [Option.some.injEq, Addr.mk.injEq] at ha
    omega
end
def ThX (X : Option Nat) (w : World) (m : MTh) : Prop := SlX X w m.sa 5 (m.t.slots.map Rt.cells) ∧ SlX X w m.qa 1 (m.t.queue.map icell) ∧ (m.sa = none → m.sc = 0) ∧ (m.qa = none → m.qc = 0)
def TabX (X : Option Nat) (w : World) (a : Option Addr) (ms : List MTh) : Prop := SlX X w a 8 (ms.map MTh.cells) ∧ ∀ m ∈ ms, ThX X w m
section
variable {X : Option Nat} {w w' : World} {a : Option Addr} {m : MTh} {ms : List MTh}
theorem ThX.at (h : ThX X w m) : ThAt w m := ⟨h.1.sl, h.2.1.sl, h.2.2⟩
theorem ThX.low (h : ThX X w m) (hg : w.grownBy w' none) : ThX X w' m := ⟨h.1.low hg, h.2.1.low hg, h.2.2⟩
theorem ThX.grown (h : ThX X w m) (hg : w.grownBy w' X) : ThX X w' m := ⟨h.1.grown hg, h.2.1.grown hg, h.2.2⟩
theorem TabX.at (h : TabX X w a ms) : TabAt w a ms := ⟨h.1.sl, fun m hm => (h.2 m hm).at⟩
theorem TabX.low (h : TabX X w a ms) (hg : w.grownBy w' none) : TabX X w' a ms := ⟨h.1.low hg, fun m hm => (h.2 m hm).low hg⟩
theorem TabX.grown (h : TabX X w a ms) (hg : w.grownBy w' X) : TabX X w' a ms := ⟨h.1.grown hg, fun m hm => (h.2 m hm).grown hg⟩
theorem TabX.th (h : TabX X w a ms) {k : Nat} (hk : ms[k]? = some m) : ThX X w m := h.2 m (List.mem_of_getElem? hk)
end
def padM (n : Nat) (ys : List MTh) : List MTh := ys ++ List.replicate (n - ys.length) MTh.zero
theorem Nb (n : Nat) : padM n [] = List.replicate n MTh.zero := by simp [padM]
theorem N9 {n : Nat} {ys : List MTh} (h : ys.length = n) : padM n ys = ys := by simp [padM, h]
theorem Hh {n : Nat} {ys : List MTh} (h : ys.length ≤ n) : (padM n ys).length = n := by simp [padM]; omega
theorem P2 {n k : Nat} {ys : List MTh} {m : MTh} (hk : ys.length = k) (h : k < n) : (padM n ys).set k m = padM n (ys ++ [m]) := by
  unfold padM
  rw [List.set_append_right _ _ (by omega), hk, Nat.sub_self, show n - k = (n - (ys ++ [m]).length) + 1 by simp; omega, List.replicate_succ, List.set_cons_zero, List.append_assoc]
  rfl
theorem Nv {ys ms : List MTh} {k : Nat} {m m' : MTh} (h : tabT ys = (tabT ms).take k) (hx : ms[k]? = some m) (he : m'.t = m.t) : tabT (ys ++ [m']) = (tabT ms).take (k + 1) := by
  have h1 : (tabT ms)[k]? = some m.t := by unfold tabT; rw [List.getElem?_map, hx]; rfl
  rw [List.take_add_one, h1, ← h]
  simp [tabT, he]
theorem Rp {ys ms : List MTh} {k : Nat} (h : tabT ys = (tabT ms).take k) (hk : ms.length ≤ k) : tabT ys = tabT ms := by
  rwa [List.take_of_length_le (by rw [Zz]; exact hk)] at h
theorem TabLen.of {ys ms : List MTh} (h : tabT ys = tabT ms) (hl : TabLen ms) : TabLen ys := fun m hm => by
  have h1 : m.t ∈ tabT ms := by rw [← h]; exact List.mem_map.2 ⟨m, hm, rfl⟩
  obtain ⟨m', hm', e⟩ := List.mem_map.1 h1
  have := hl m' hm'
  rwa [e] at this
theorem J7 {ys ms : List MTh} (h : tabT ys = tabT ms) : ys.length = ms.length := by
  have := congrArg List.length h
  rwa [Zz, Zz] at this
def TabBig (ms : List MTh) : Prop := ∀ m ∈ ms, m.t.slots.length ≤ 9223372036854775807 ∧ m.t.queue.length ≤ 9223372036854775807
theorem TabBig.at {ms : List MTh} (h : TabBig ms) {k : Nat} {m : MTh} (hk : ms[k]? = some m) : m.t.slots.length ≤ 9223372036854775807 ∧ m.t.queue.length ≤ 9223372036854775807 := h m (List.mem_of_getElem? hk)
theorem N6 {ms : List MTh} {k : Nat} {m : MTh} (h : ∀ x ∈ ms.take k, x.t.slots.length ≤ 1048576 ∧ x.t.queue.length ≤ 1048576) (hx : ms[k]? = some m) (hm : m.t.slots.length ≤ 1048576 ∧ m.t.queue.length ≤ 1048576) :
    ∀ x ∈ ms.take (k + 1), x.t.slots.length ≤ 1048576 ∧ x.t.queue.length ≤ 1048576 := fun x hxm => by
  rw [List.take_add_one, hx] at hxm
  rcases List.mem_append.1 hxm with h1 | h1
  · exact h x h1
  · simp at h1; subst h1; exact hm
theorem Wy {ms : List MTh} {k : Nat} (h : ∀ x ∈ ms.take k, x.t.slots.length ≤ 1048576 ∧ x.t.queue.length ≤ 1048576) (hk : ms.length ≤ k) : TabLen ms := by
  rwa [List.take_of_length_le hk] at h
theorem Lj {ms : List MTh} (h : tableOk (tabT ms) = true) {i : Nat} (hi : i < ms.length) : rowOk (tabT ms) (mAt ms i).t = true := by
  rw [Jv] at h
  exact List.all_eq_true.1 (Bool.and_eq_true_iff.1 h).2 _ (List.mem_of_getElem? (Km hi))
theorem Wu {ms : List MTh} (h : tableOk (tabT ms) = true) {i : Nat} (hi : i < ms.length) : thingOk (mAt ms i).t = true := by
  have h1 := Lj h hi
  unfold rowOk at h1
  simp only [Bool.and_eq_true] at h1
  exact h1.1.1
theorem J6 {ms : List MTh} (h : tableOk (tabT ms) = true) {i : Nat} (hi : i < ms.length) : labelOk (mAt ms i).t.lab = true := (Jk (Wu h hi)).2.1
theorem K7 {ms : List MTh} (h : tableOk (tabT ms) = true) : 1 ≤ ms.length ∧ ms.length ≤ 8 := by
  unfold tableOk at h
  have h1 := Zb.1 (Bool.and_eq_true_iff.1 h).1
  rw [Zz] at h1
  omega
theorem Vk {ms : List MTh} {k kd : Int} : (inR k 1 (ms.length : Int) && decide ((mAt ms (k - 1).toNat).t.kind = kd)) = kindAt (tabT ms) k kd := by
  unfold kindAt
  rw [Js, Zz]
end Go.Dw
end
section
namespace Go.Proofs.YtfoplmgoiblkgaaDoor
open Go.RowKit Go.Dw
set_option maxRecDepth 100000
set_option maxHeartbeats 4000000
set_option linter.unusedSimpArgs false
set_option linter.unusedVariables false
theorem Ta : elemSz Tryd.prog 22 = some 8 := by kernel_rfl
theorem Zl : elemSz Tryd.prog 27 = some 8 := by kernel_rfl
theorem Sh : fieldOff Tryd.prog 55 0 = some 0 := by kernel_rfl
theorem Sl : fieldOff Tryd.prog 55 1 = some 1 := by kernel_rfl
theorem Rv : fieldOff Tryd.prog 55 2 = some 3 := by kernel_rfl
theorem R8 : fieldOff Tryd.prog 55 3 = some 4 := by kernel_rfl
theorem Lp : fieldOff Tryd.prog 55 4 = some 5 := by kernel_rfl
theorem Lz : fieldOff Tryd.prog 55 5 = some 6 := by kernel_rfl
theorem Sf : fieldOff Tryd.prog 55 6 = some 7 := by kernel_rfl
theorem M1 : goFn Tryd.prog 22 = true := by kernel_rfl
theorem Bc : goFn Tryd.prog 25 = true := by kernel_rfl
theorem Md : goFn Tryd.prog 28 = true := by kernel_rfl
theorem Ux : goFn Tryd.prog 34 = true := by kernel_rfl
theorem Mu : goFn Tryd.prog 42 = true := by kernel_rfl
theorem M9 : goFn Tryd.prog 43 = true := by kernel_rfl
theorem Mi : goFn Tryd.prog 49 = true := by kernel_rfl
theorem Me : goFn Tryd.prog 50 = true := by kernel_rfl
theorem T9 : goFn Tryd.prog 51 = true := by kernel_rfl
theorem Td : mkTy Tryd.prog 27 = some (43, 8, 96, some (.agg #[.int .i64 0, .int .i64 0, .int .i64 0, .int .i64 0, .int .i64 0, .slice none 0 0, .slice none 0 0, .int .i64 0])) := by kernel_rfl
theorem Lm : mkTy Tryd.prog 41 = some (3, 1, 8, some (.int .i64 0)) := by kernel_rfl
theorem S4 : oneTy Tryd.prog 53 = true := by kernel_rfl
theorem Bb : rowTy Tryd.prog 52 = some 2 := by kernel_rfl
theorem Sx : rowTy Tryd.prog 55 = some 8 := by kernel_rfl
theorem Pu (m : Int) (w : World) (xs : List Int) (a : Option Addr) (c : Nat) (hn : xs.length ≤ 9223372036854775807) (hm : 0 ≤ m ∧ m ≤ 1048576) : CallsR Tryd.prog 43 #[.slice a xs.length c, .int .i64 m] w (fun v w' => ∃ n : Int, v = .int .i64 n ∧ (0 ≤ n → (xs.length : Int) + n ≤ m) ∧ -1 ≤ n ∧ n ≤ m ∧ w.grownBy w' none) := by
 refine X0 (n := 12) Tryd.func43 rfl Tryd.ntmps43 rfl ?_
 have hb0 := World.grownBy.refl w none
 refine Xb ?_
 refine Xh (v := .int .i64 0) rfl rfl ?_
 refine Xa ?_
 refine Xb ?_
 refine Xc (v := .int .i64 m) rfl rfl ?_
 refine Xc (v := .slice a xs.length c) rfl rfl ?_
 refine Ym (by kernel_rfl) rfl rfl ?_
 refine Y3 (c := m - (xs.length : Int)) rfl rfl (by omega) (by omega) (by omega) rfl ?_
 refine Xh (v := .int .i64 (m - (xs.length : Int))) rfl rfl ?_
 refine Xa ?_
 refine Xt ?_
 refine Xb ?_
 refine Xc (v := .int .i64 (m - (xs.length : Int))) rfl rfl ?_
 refine Y4 (q := decide (m - (xs.length : Int) < 0)) rfl rfl rfl rfl ?_
 refine Xa ?_
 refine Xw rfl (fun h101 => ?_) (fun h101 => ?_)
 ·
  have h102 := of_decide_eq_true h101
  refine Xb ?_
  refine Xh (v := .int .i64 (-1)) rfl rfl ?_
  refine Xa ?_
  refine Xs ?_
  refine Yi ?_
  refine ⟨.int .i64 (-1), Yq rfl rfl, (-1), rfl, by omega, by omega, by omega, hb0⟩
 ·
  have h103 := of_decide_eq_false h101
  refine Xy ?_
  refine Xv ?_
  refine Xb ?_
  refine Xc (v := .int .i64 (m - (xs.length : Int))) rfl rfl ?_
  refine Xh (v := .int .i64 (m - (xs.length : Int))) rfl rfl ?_
  refine Xa ?_
  refine Xs ?_
  refine ⟨.int .i64 (m - (xs.length : Int)), Yq rfl rfl, (m - (xs.length : Int)), rfl, by omega, by omega, by omega, hb0⟩
theorem Nn (m : Int) (w : World) (q : MTh) (hq : ThAt w q) (hn : q.t.slots.length ≤ 9223372036854775807 ∧ q.t.queue.length ≤ 9223372036854775807) (hm : 0 ≤ m ∧ m ≤ 1048576) : CallsR Tryd.prog 22 #[.agg #[.int .i64 q.t.kind, .int .i64 q.t.lab.s, .int .i64 q.t.lab.v, .int .i64 q.t.ve, .int .i64 q.t.num, .slice q.sa q.t.slots.length q.sc, .slice q.qa q.t.queue.length q.qc, .int .i64 q.t.to], .int .i64 m] w (fun v w' => ∃ n : Int, v = .int .i64 n ∧ (0 ≤ n → (q.t.slots.length : Int) + q.t.queue.length + n ≤ m) ∧ -1 ≤ n ∧ n ≤ m ∧ w.grownBy w' none) := by
 refine X0 (n := 18) Tryd.func22 rfl Tryd.ntmps22 rfl ?_
 have hb0 := World.grownBy.refl w none
 refine Xb ?_
 refine Yu (v := .agg #[.int .i64 q.t.kind, .int .i64 q.t.lab.s, .int .i64 q.t.lab.v, .int .i64 q.t.ve, .int .i64 q.t.num, .slice q.sa q.t.slots.length q.sc, .slice q.qa q.t.queue.length q.qc, .int .i64 q.t.to]) (cs := #[.int .i64 q.t.kind, .int .i64 q.t.lab.s, .int .i64 q.t.lab.v, .int .i64 q.t.ve, .int .i64 q.t.num, .slice q.sa q.t.slots.length q.sc, .slice q.qa q.t.queue.length q.qc, .int .i64 q.t.to]) rfl rfl rfl ?_
 intro B101 w102 hN103
 have hlB101 := Yf hN103 hb0
 have hb104 := low0 hb0 hN103.grw
 refine Xh (v := .int .i64 0) rfl rfl ?_
 refine Xa ?_
 refine Xb ?_
 refine Xd (o' := 5) Lp rfl rfl rfl ?_
 refine Xi (v := .slice q.sa q.t.slots.length q.sc) S4 rfl (hN103.blk.cell rfl) rfl ?_
 refine Xc (v := .int .i64 m) rfl rfl ?_
 refine Xn (vs := [.slice q.sa q.t.slots.length q.sc, .int .i64 m]) Mu (Xg rfl (Xg rfl Xm)) rfl (Hx m _ q.t.slots _ _ (by omega) (by omega)) ?_
 rintro _ w105 ⟨n107, rfl, hn108, hn109, hn110, hg106⟩
 have hb111 := low0 hb104 hg106
 refine Xh (v := .int .i64 n107) rfl rfl ?_
 refine Xa ?_
 refine Xt ?_
 refine Xb ?_
 refine Xc (v := .int .i64 n107) rfl rfl ?_
 refine Y4 (q := decide (n107 < 0)) rfl rfl rfl rfl ?_
 refine Xa ?_
 refine Xw rfl (fun h112 => ?_) (fun h112 => ?_)
 ·
  have h113 := of_decide_eq_true h112
  refine Xb ?_
  refine Xh (v := .int .i64 (-1)) rfl rfl ?_
  refine Xa ?_
  refine Xs ?_
  refine Yi ?_
  refine ⟨.int .i64 (-1), Yq rfl rfl, (-1), rfl, by omega, by omega, by omega, hb111⟩
 ·
  have h114 := of_decide_eq_false h112
  refine Xy ?_
  refine Xv ?_
  refine Xb ?_
  refine Xd (o' := 6) Lz rfl rfl rfl ?_
  have k115 := (hN103.blk.grown0 hg106)
  refine Xi (v := .slice q.qa q.t.queue.length q.qc) Jo rfl (k115.cell rfl) rfl ?_
  refine Xc (v := .int .i64 n107) rfl rfl ?_
  refine Xn (vs := [.slice q.qa q.t.queue.length q.qc, .int .i64 n107]) M9 (Xg rfl (Xg rfl Xm)) rfl (Pu n107 _ q.t.queue _ _ (by omega) (by omega)) ?_
  rintro _ w116 ⟨n118, rfl, hn119, hn120, hn121, hg117⟩
  have hb122 := low0 hb111 hg117
  refine Xh (v := .int .i64 n118) rfl rfl ?_
  refine Xa ?_
  refine Xt ?_
  refine Xb ?_
  refine Xc (v := .int .i64 n118) rfl rfl ?_
  refine Y4 (q := decide (n118 < 0)) rfl rfl rfl rfl ?_
  refine Xa ?_
  refine Xw rfl (fun h123 => ?_) (fun h123 => ?_)
  ·
   have h124 := of_decide_eq_true h123
   refine Xb ?_
   refine Xh (v := .int .i64 (-1)) rfl rfl ?_
   refine Xa ?_
   refine Xs ?_
   refine Yi ?_
   refine ⟨.int .i64 (-1), Yq rfl rfl, (-1), rfl, by omega, by omega, by omega, hb122⟩
  ·
   have h125 := of_decide_eq_false h123
   refine Xy ?_
   refine Xv ?_
   refine Xb ?_
   refine Xc (v := .int .i64 n118) rfl rfl ?_
   refine Xh (v := .int .i64 n118) rfl rfl ?_
   refine Xa ?_
   refine Xs ?_
   refine ⟨.int .i64 n118, Yq rfl rfl, n118, rfl, by omega, by omega, by omega, hb122⟩
theorem H3 (m : Int) (w : World) (ms : List MTh) (a : Option Addr) (c : Nat) (ht : TabAt w a ms) (hbig : TabBig ms) (hn : ms.length ≤ 9223372036854775807) (hm : 0 ≤ m ∧ m ≤ 1048576) : CallsR Tryd.prog 9 #[.slice a ms.length c, .int .i64 m] w (fun v w' => ∃ n : Int, v = .int .i64 n ∧ (0 ≤ n → TabLen ms ∧ ms.length ≤ 1048576) ∧ -1 ≤ n ∧ n ≤ 1048576 ∧ w.grownBy w' none) := by
 refine X0 (n := 27) Tryd.func9 rfl Tryd.ntmps9 rfl ?_
 have hb0 := World.grownBy.refl w none
 refine Xb ?_
 refine Xh (v := .int .i64 0) rfl rfl ?_
 refine Xa ?_
 refine Xb ?_
 refine Xc (v := .int .i64 m) rfl rfl ?_
 refine Xc (v := .slice a ms.length c) rfl rfl ?_
 refine Ym (by kernel_rfl) rfl rfl ?_
 refine Y3 (c := m - (ms.length : Int)) rfl rfl (by omega) (by omega) (by omega) rfl ?_
 refine Xh (v := .int .i64 (m - (ms.length : Int))) rfl rfl ?_
 refine Xa ?_
 refine Xt ?_
 refine Xb ?_
 refine Xc (v := .int .i64 (m - (ms.length : Int))) rfl rfl ?_
 refine Y4 (q := decide (m - (ms.length : Int) < 0)) rfl rfl rfl rfl ?_
 refine Xa ?_
 refine Xw rfl (fun h101 => ?_) (fun h101 => ?_)
 ·
  have h102 := of_decide_eq_true h101
  refine Xb ?_
  refine Xh (v := .int .i64 (-1)) rfl rfl ?_
  refine Xa ?_
  refine Xs ?_
  refine Yi ?_
  refine ⟨.int .i64 (-1), Yq rfl rfl, (-1), rfl, fun h => absurd h (by omega), by omega, by omega, hb0⟩
 ·
  have h103 := of_decide_eq_false h101
  refine Xy ?_
  refine Xv ?_
  refine Xt ?_
  refine Xb ?_
  refine Xh (v := .int .i64 0) rfl rfl ?_
  refine Xa ?_
  refine Ye ?_
  refine Zd (fun mm f' w' => ∃ (k : Nat) (n : Int), mm = ms.length - k ∧ k ≤ ms.length ∧ (0 ≤ n ∧ n ≤ 1048576) ∧ (∀ x ∈ ms.take k, x.t.slots.length ≤ 1048576 ∧ x.t.queue.length ≤ 1048576) ∧ f' 1 = .int .i64 n ∧ f' 5 = .int .i64 (k : Int) ∧ f' 0 = .slice a ms.length c ∧ w.grownBy w' none) (ms.length - 0) ⟨0, (m - (ms.length : Int)), rfl, (Nat.zero_le _), (by omega), (fun x hx => by simp at hx), rfl, rfl, rfl, hb0⟩ ?_
  rintro mm f104 w105 ⟨k, n, hm107, hk, hnn, htl, e108, e109, e110, hb106⟩
  refine Xt ?_
  refine Xb ?_
  refine Xc (v := .int .i64 (k : Int)) e109 rfl ?_
  refine Xc (v := .slice a ms.length c) e110 rfl ?_
  refine Ym (by kernel_rfl) rfl rfl ?_
  refine Y4 (q := decide ((k : Int) < (ms.length : Int))) rfl rfl rfl rfl ?_
  refine Xa ?_
  refine Xw rfl (fun h111 => ?_) (fun h111 => ?_)
  ·
   have h112 := of_decide_eq_true h111
   refine Xy ?_
   refine Xv ?_
   refine Xt ?_
   refine Ye ?_
   refine Xb ?_
   refine Xc (v := .slice a ms.length c) e110 rfl ?_
   refine Xc (v := .int .i64 (k : Int)) e109 rfl ?_
   obtain ⟨b115, q116, o117, ha118, ho119, hr120⟩ := SlAt.at (TabAt.low ht hb106).1 (Yn (Ya (show k < ms.length by omega)))
   have hle121 := TabBig.at hbig (Ya (show k < ms.length by omega))
   refine Yd Ta rfl rfl ha118 ho119 (by omega) (by omega) rfl ?_
   refine Xu (vs := [.int .i64 ((mAt ms k).t.kind), .int .i64 ((mAt ms k).t.lab.s), .int .i64 ((mAt ms k).t.lab.v), .int .i64 ((mAt ms k).t.ve), .int .i64 ((mAt ms k).t.num), .slice ((mAt ms k).sa) ((mAt ms k).t.slots.length) ((mAt ms k).sc), .slice ((mAt ms k).qa) ((mAt ms k).t.queue.length) ((mAt ms k).qc), .int .i64 ((mAt ms k).t.to)]) Sx rfl rfl (Za hr120 0 8 rfl) rfl ?_
   refine Xc (v := .int .i64 n) e108 rfl ?_
   refine Xn (vs := [.agg #[.int .i64 ((mAt ms k).t.kind), .int .i64 ((mAt ms k).t.lab.s), .int .i64 ((mAt ms k).t.lab.v), .int .i64 ((mAt ms k).t.ve), .int .i64 ((mAt ms k).t.num), .slice ((mAt ms k).sa) ((mAt ms k).t.slots.length) ((mAt ms k).sc), .slice ((mAt ms k).qa) ((mAt ms k).t.queue.length) ((mAt ms k).qc), .int .i64 ((mAt ms k).t.to)], .int .i64 n]) M1 (Xg rfl (Xg rfl Xm)) rfl (Nn n _ (mAt ms k) (TabAt.th (TabAt.low ht hb106) (Ya (show k < ms.length by omega))) (by omega) (by omega)) ?_
   rintro _ w122 ⟨n124, rfl, hn125, hn126, hn127, hg123⟩
   have hb128 := low0 hb106 hg123
   refine Xh (v := .int .i64 n124) rfl rfl ?_
   refine Xa ?_
   refine Xb ?_
   refine Xc (v := .int .i64 n124) rfl rfl ?_
   refine Y4 (q := decide (n124 < 0)) rfl rfl rfl rfl ?_
   refine Xa ?_
   refine Xw rfl (fun h129 => ?_) (fun h129 => ?_)
   ·
    have h130 := of_decide_eq_true h129
    refine Xb ?_
    refine Xh (v := .int .i64 (-1)) rfl rfl ?_
    refine Xa ?_
    refine Xs ?_
    refine Y6 ?_
    refine Yi ?_
    refine Yi ?_
    refine Y6 ?_
    refine Yi ?_
    refine ⟨.int .i64 (-1), Yq rfl rfl, (-1), rfl, fun h => absurd h (by omega), by omega, by omega, hb128⟩
   ·
    have h131 := of_decide_eq_false h129
    refine Xy ?_
    refine Yy ?_
    refine Xv ?_
    refine X1 ?_
    refine Xc (v := .int .i64 (k : Int)) e109 rfl ?_
    refine Yx (c := (k : Int) + 1) rfl rfl (by omega) (by omega) (by omega) rfl ?_
    refine Xh (v := .int .i64 ((k : Int) + 1)) rfl rfl ?_
    refine Xa ?_
    refine Xv ?_
    exact ⟨ms.length - (k + 1), by omega, (k + 1), n124, rfl, (by omega), (by omega), (N6 htl (Ya (show k < ms.length by omega)) (by omega)), rfl, rfl, e110, hb128⟩
  ·
   have h132 := of_decide_eq_false h111
   refine Y5 ?_
   refine Y2 ?_
   refine Y2 ?_
   refine Z1 ?_
   refine Xv ?_
   refine Xb ?_
   refine Xc (v := .int .i64 n) e108 rfl ?_
   refine Xh (v := .int .i64 n) rfl rfl ?_
   refine Xa ?_
   refine Xs ?_
   refine ⟨.int .i64 n, Yq rfl rfl, n, rfl, fun _ => ⟨Wy htl (by omega), by omega⟩, by omega, by omega, hb106⟩
theorem Rq (w : World) (xs : List Int) (a : Option Addr) (c : Nat) (hs : SlAt w a 1 (xs.map icell)) (hn : xs.length ≤ 1048576) : CallsR Tryd.prog 51 #[.slice a xs.length c] w (fun v w' => ∃ B : Nat, v = .slice (some ⟨B, 0, none⟩) xs.length xs.length ∧ w.heap.size ≤ B ∧ Blk w' B 3 (xs.flatMap icell).toArray ∧ w.grownBy w' none) := by
 refine X0 (n := 22) Tryd.func51 rfl Tryd.ntmps51 rfl ?_
 have hb0 := World.grownBy.refl w none
 refine Xb ?_
 refine Xh (v := .slice none 0 0) rfl rfl ?_
 refine Xa ?_
 refine Xb ?_
 refine Xc (v := .slice a xs.length c) rfl rfl ?_
 refine Ym (by kernel_rfl) rfl rfl ?_
 refine Kz (g := icell) (z := (0 : Int)) (c := xs.length) Lm rfl Ys (by omega) rfl rfl (by omega) (by omega) rfl ?_
 intro B101 w102 hN103
 have hlB101 := Yf hN103 hb0
 have hb104 := low0 hb0 hN103.grw
 refine Xh (v := .slice (some ⟨B101, 0, none⟩) xs.length xs.length) rfl rfl ?_
 refine Xa ?_
 refine Xt ?_
 refine Xb ?_
 refine Xh (v := .int .i64 0) rfl rfl ?_
 refine Xa ?_
 refine Ye ?_
 refine Zd (fun mm f' w' => ∃ (k : Nat), mm = xs.length - k ∧ k ≤ xs.length ∧ (fill xs (0 : Int) k).length = xs.length ∧ f' 4 = .int .i64 (k : Int) ∧ f' 0 = .slice a xs.length c ∧ f' 2 = .slice none 0 0 ∧ f' 3 = .slice (some ⟨B101, 0, none⟩) xs.length xs.length ∧ w.grownBy w' none ∧ Blk w' B101 3 ((fill xs (0 : Int) k).flatMap icell).toArray) (xs.length - 0) ⟨0, rfl, (Nat.zero_le _), (Vj (Nat.zero_le _)), rfl, rfl, rfl, rfl, hb104, (by rw [Wh]; exact hN103.blk)⟩ ?_
 rintro mm f105 w106 ⟨k, hm108, hk, hfl, e109, e110, e111, e112, hb107, k113⟩
 refine Xt ?_
 refine Xb ?_
 refine Xc (v := .int .i64 (k : Int)) e109 rfl ?_
 refine Xc (v := .slice a xs.length c) e110 rfl ?_
 refine Ym (by kernel_rfl) rfl rfl ?_
 refine Y4 (q := decide ((k : Int) < (xs.length : Int))) rfl rfl rfl rfl ?_
 refine Xa ?_
 refine Xw rfl (fun h114 => ?_) (fun h114 => ?_)
 ·
  have h115 := of_decide_eq_true h114
  refine Xy ?_
  refine Xv ?_
  refine Xt ?_
  refine Ye ?_
  refine X1 ?_
  refine Xc (v := .slice (some ⟨B101, 0, none⟩) xs.length xs.length) e112 rfl ?_
  refine Xc (v := .int .i64 (k : Int)) e109 rfl ?_
  refine Xc (v := .slice a xs.length c) e110 rfl ?_
  refine Xc (v := .int .i64 (k : Int)) e109 rfl ?_
  obtain ⟨x116, hx117⟩ := Zf (l := xs) (i := k) (by omega)
  obtain ⟨b118, q119, o120, ha121, ho122, hr123⟩ := SlAt.at hs (Yn hx117)
  refine Yd Qa rfl rfl ha121 ho122 (by omega) (by omega) rfl ?_
  refine Xi (v := .int .i64 x116) X3 rfl ((Yo hr123 hb107) 0 _ rfl) rfl ?_
  refine X8 (o' := k * 1) Qa rfl rfl (by omega) (by omega) (by omega) rfl ?_
  obtain ⟨x126, hx127⟩ := Zf (l := fill xs (0 : Int) k) (i := k) (by omega)
  refine Yc (v := .int .i64 x116) (cs' := (((fill xs (0 : Int) k).set k x116).flatMap icell).toArray) X3 rfl rfl rfl k113 (G8 (j := 0) Ys hx127 (by omega)) (Wi (j := 0) Ys hx127 x116 (by omega) rfl) ?_
  intro w124 hS125
  have hb128 := low1 hb107 hS125.grw (by omega)
  refine Xa ?_
  refine Yy ?_
  refine Xv ?_
  refine X1 ?_
  refine Xc (v := .int .i64 (k : Int)) e109 rfl ?_
  refine Yx (c := (k : Int) + 1) rfl rfl (by omega) (by omega) (by omega) rfl ?_
  refine Xh (v := .int .i64 ((k : Int) + 1)) rfl rfl ?_
  refine Xa ?_
  refine Xv ?_
  exact ⟨xs.length - (k + 1), by omega, (k + 1), rfl, (by omega), (Vj (by omega)), rfl, e110, e111, e112, hb128, (by have kk := hS125.blk; rw [Gx hx117] at kk; exact kk)⟩
 ·
  have h129 := of_decide_eq_false h114
  refine Y5 ?_
  refine Y2 ?_
  refine Y2 ?_
  refine Z1 ?_
  refine Xv ?_
  refine Xb ?_
  refine Xc (v := .slice (some ⟨B101, 0, none⟩) xs.length xs.length) e112 rfl ?_
  refine Xh (v := .slice (some ⟨B101, 0, none⟩) xs.length xs.length) rfl rfl ?_
  refine Xa ?_
  refine Xs ?_
  refine ⟨.slice (some ⟨B101, 0, none⟩) xs.length xs.length, Yq rfl rfl, B101, rfl, hlB101, ?_, hb107⟩
  have kk := k113
  rw [Gq (by omega)] at kk
  exact kk
theorem Ns (w : World) (q : MTh) (hq : ThAt w q) (hn : q.t.slots.length ≤ 1048576 ∧ q.t.queue.length ≤ 1048576) : CallsR Tryd.prog 25 #[.agg #[.int .i64 q.t.kind, .int .i64 q.t.lab.s, .int .i64 q.t.lab.v, .int .i64 q.t.ve, .int .i64 q.t.num, .slice q.sa q.t.slots.length q.sc, .slice q.qa q.t.queue.length q.qc, .int .i64 q.t.to]] w (fun v w' => ∃ m : MTh, v = .agg #[.int .i64 m.t.kind, .int .i64 m.t.lab.s, .int .i64 m.t.lab.v, .int .i64 m.t.ve, .int .i64 m.t.num, .slice m.sa m.t.slots.length m.sc, .slice m.qa m.t.queue.length m.qc, .int .i64 m.t.to] ∧ m.t = q.t ∧ (∀ b, b < w.heap.size → ThX (some b) w' m) ∧ w.grownBy w' none) := by
 refine X0 (n := 29) Tryd.func25 rfl Tryd.ntmps25 rfl ?_
 have hb0 := World.grownBy.refl w none
 refine Xb ?_
 refine Yu (v := .agg #[.int .i64 q.t.kind, .int .i64 q.t.lab.s, .int .i64 q.t.lab.v, .int .i64 q.t.ve, .int .i64 q.t.num, .slice q.sa q.t.slots.length q.sc, .slice q.qa q.t.queue.length q.qc, .int .i64 q.t.to]) (cs := #[.int .i64 q.t.kind, .int .i64 q.t.lab.s, .int .i64 q.t.lab.v, .int .i64 q.t.ve, .int .i64 q.t.num, .slice q.sa q.t.slots.length q.sc, .slice q.qa q.t.queue.length q.qc, .int .i64 q.t.to]) rfl rfl rfl ?_
 intro B101 w102 hN103
 have hlB101 := Yf hN103 hb0
 have hb104 := low0 hb0 hN103.grw
 refine Yj (cs := #[.int .i64 0, .int .i64 0, .int .i64 0, .int .i64 0, .int .i64 0, .slice none 0 0, .slice none 0 0, .int .i64 0]) Jn rfl rfl ?_
 intro B105 w106 hN107
 have hlB105 := Yf hN107 hb104
 have lt_B101_B105 := Xq hN107 (hN103.blk).lt
 have hb108 := low0 hb104 hN107.grw
 refine Xa ?_
 refine Xb ?_
 refine Yj (cs := #[.int .i64 0, .int .i64 0, .int .i64 0, .int .i64 0, .int .i64 0, .slice none 0 0, .slice none 0 0, .int .i64 0]) Jn rfl rfl ?_
 intro B109 w110 hN111
 have hlB109 := Yf hN111 hb108
 have k112 := (hN103.blk.grown0 hN107.grw)
 have lt_B101_B109 := Xq hN111 (k112).lt
 have lt_B105_B109 := Xq hN111 (hN107.blk).lt
 have hb113 := low0 hb108 hN111.grw
 refine Xa ?_
 refine Xb ?_
 refine Xd (o' := 0) Sh rfl rfl rfl ?_
 have k114 := (k112.grown0 hN111.grw)
 refine Xi (v := .int .i64 q.t.kind) X3 rfl (k114.cell rfl) rfl ?_
 refine Xd (o' := 0) Yt rfl rfl rfl ?_
 refine Yc (v := .int .i64 q.t.kind) (cs' := #[.int .i64 q.t.kind, .int .i64 0, .int .i64 0, .int .i64 0, .int .i64 0, .slice none 0 0, .slice none 0 0, .int .i64 0]) X3 rfl rfl rfl hN111.blk (Nat.le_of_ble_eq_true rfl) rfl ?_
 intro w115 hS116
 have hb117 := low1 hb113 hS116.grw (by omega)
 refine Xa ?_
 refine Xb ?_
 refine Xd (o' := 1) Sl rfl rfl rfl ?_
 have k118 := (k114.grown hS116.grw (Xf (by omega)))
 refine Xu (vs := [.int .i64 q.t.lab.s, .int .i64 q.t.lab.v]) Bb rfl rfl (k118.rangeL 1 2 rfl) rfl ?_
 refine Xn (vs := [.agg #[.int .i64 q.t.lab.s, .int .i64 q.t.lab.v]]) Mi (Xg rfl Xm) rfl (N1 q.t.lab _) ?_
 rintro _ w119 ⟨rfl, hg120⟩
 have hb121 := low0 hb117 hg120
 refine Xd (o' := 1) Q3 rfl rfl rfl ?_
 have k122 := (hS116.blk.grown0 hg120)
 refine Xz (vs := [.int .i64 q.t.lab.s, .int .i64 q.t.lab.v]) (cs' := #[.int .i64 q.t.kind, .int .i64 q.t.lab.s, .int .i64 q.t.lab.v, .int .i64 0, .int .i64 0, .slice none 0 0, .slice none 0 0, .int .i64 0]) Qd rfl rfl rfl (by simp [Value.oneCell']) k122 (Nat.le_of_ble_eq_true rfl) rfl ?_
 intro w123 hS124
 have hb125 := low1 hb121 hS124.grw (by omega)
 refine Xa ?_
 refine Xb ?_
 refine Xd (o' := 3) Rv rfl rfl rfl ?_
 have k126 := ((k118.grown0 hg120).grown hS124.grw (Xf (by omega)))
 refine Xi (v := .int .i64 q.t.ve) X3 rfl (k126.cell rfl) rfl ?_
 refine Xd (o' := 3) Z6 rfl rfl rfl ?_
 refine Yc (v := .int .i64 q.t.ve) (cs' := #[.int .i64 q.t.kind, .int .i64 q.t.lab.s, .int .i64 q.t.lab.v, .int .i64 q.t.ve, .int .i64 0, .slice none 0 0, .slice none 0 0, .int .i64 0]) X3 rfl rfl rfl hS124.blk (Nat.le_of_ble_eq_true rfl) rfl ?_
 intro w127 hS128
 have hb129 := low1 hb125 hS128.grw (by omega)
 refine Xa ?_
 refine Xb ?_
 refine Xd (o' := 4) R8 rfl rfl rfl ?_
 have k130 := (k126.grown hS128.grw (Xf (by omega)))
 refine Xi (v := .int .i64 q.t.num) X3 rfl (k130.cell rfl) rfl ?_
 refine Xd (o' := 4) Qm rfl rfl rfl ?_
 refine Yc (v := .int .i64 q.t.num) (cs' := #[.int .i64 q.t.kind, .int .i64 q.t.lab.s, .int .i64 q.t.lab.v, .int .i64 q.t.ve, .int .i64 q.t.num, .slice none 0 0, .slice none 0 0, .int .i64 0]) X3 rfl rfl rfl hS128.blk (Nat.le_of_ble_eq_true rfl) rfl ?_
 intro w131 hS132
 have hb133 := low1 hb129 hS132.grw (by omega)
 refine Xa ?_
 refine Xb ?_
 refine Xd (o' := 5) Lp rfl rfl rfl ?_
 have k134 := (k130.grown hS132.grw (Xf (by omega)))
 refine Xi (v := .slice q.sa q.t.slots.length q.sc) S4 rfl (k134.cell rfl) rfl ?_
 have k135 := ((((((hN107.blk.grown0 hN111.grw).grown hS116.grw (Xf (by omega))).grown0 hg120).grown hS124.grw (Xf (by omega))).grown hS128.grw (Xf (by omega))).grown hS132.grw (Xf (by omega)))
 refine Xn (vs := [.slice q.sa q.t.slots.length q.sc]) Me (Xg rfl Xm) rfl (Lb _ q.t.slots _ _ (ThAt.low hq hb133).1 (by omega)) ?_
 rintro _ w140 ⟨B136, rfl, hge137, k138, hg139⟩
 have hb141 := low0 hb133 hg139
 have hlB136 := Nat.le_trans hb133.size hge137
 have lt_B101_B136 := Nat.lt_of_lt_of_le (k134).lt hge137
 have lt_B105_B136 := Nat.lt_of_lt_of_le (k135).lt hge137
 have lt_B109_B136 := Nat.lt_of_lt_of_le (hS132.blk).lt hge137
 refine Xd (o' := 5) Zt rfl rfl rfl ?_
 have k142 := (hS132.blk.grown0 hg139)
 refine Yc (v := .slice (some ⟨B136, 0, none⟩) q.t.slots.length q.t.slots.length) (cs' := #[.int .i64 q.t.kind, .int .i64 q.t.lab.s, .int .i64 q.t.lab.v, .int .i64 q.t.ve, .int .i64 q.t.num, .slice (some ⟨B136, 0, none⟩) q.t.slots.length q.t.slots.length, .slice none 0 0, .int .i64 0]) Qq rfl rfl rfl k142 (Nat.le_of_ble_eq_true rfl) rfl ?_
 intro w143 hS144
 have hb145 := low1 hb141 hS144.grw (by omega)
 refine Xa ?_
 refine Xb ?_
 refine Xd (o' := 6) Lz rfl rfl rfl ?_
 have k146 := ((k134.grown0 hg139).grown hS144.grw (Xf (by omega)))
 refine Xi (v := .slice q.qa q.t.queue.length q.qc) Jo rfl (k146.cell rfl) rfl ?_
 have k147 := ((k135.grown0 hg139).grown hS144.grw (Xf (by omega)))
 have k148 := (k138.grown hS144.grw (Xf (by omega)))
 refine Xn (vs := [.slice q.qa q.t.queue.length q.qc]) T9 (Xg rfl Xm) rfl (Rq _ q.t.queue _ _ (ThAt.low hq hb145).2.1 (by omega)) ?_
 rintro _ w153 ⟨B149, rfl, hge150, k151, hg152⟩
 have hb154 := low0 hb145 hg152
 have hlB149 := Nat.le_trans hb145.size hge150
 have lt_B101_B149 := Nat.lt_of_lt_of_le (k146).lt hge150
 have lt_B105_B149 := Nat.lt_of_lt_of_le (k147).lt hge150
 have lt_B109_B149 := Nat.lt_of_lt_of_le (hS144.blk).lt hge150
 have lt_B136_B149 := Nat.lt_of_lt_of_le (k148).lt hge150
 refine Xd (o' := 6) Qw rfl rfl rfl ?_
 have k155 := (hS144.blk.grown0 hg152)
 refine Yc (v := .slice (some ⟨B149, 0, none⟩) q.t.queue.length q.t.queue.length) (cs' := #[.int .i64 q.t.kind, .int .i64 q.t.lab.s, .int .i64 q.t.lab.v, .int .i64 q.t.ve, .int .i64 q.t.num, .slice (some ⟨B136, 0, none⟩) q.t.slots.length q.t.slots.length, .slice (some ⟨B149, 0, none⟩) q.t.queue.length q.t.queue.length, .int .i64 0]) Jo rfl rfl rfl k155 (Nat.le_of_ble_eq_true rfl) rfl ?_
 intro w156 hS157
 have hb158 := low1 hb154 hS157.grw (by omega)
 refine Xa ?_
 refine Xb ?_
 refine Xd (o' := 7) Sf rfl rfl rfl ?_
 have k159 := ((k146.grown0 hg152).grown hS157.grw (Xf (by omega)))
 refine Xi (v := .int .i64 q.t.to) X3 rfl (k159.cell rfl) rfl ?_
 refine Xd (o' := 7) Q6 rfl rfl rfl ?_
 refine Yc (v := .int .i64 q.t.to) (cs' := #[.int .i64 q.t.kind, .int .i64 q.t.lab.s, .int .i64 q.t.lab.v, .int .i64 q.t.ve, .int .i64 q.t.num, .slice (some ⟨B136, 0, none⟩) q.t.slots.length q.t.slots.length, .slice (some ⟨B149, 0, none⟩) q.t.queue.length q.t.queue.length, .int .i64 q.t.to]) X3 rfl rfl rfl hS157.blk (Nat.le_of_ble_eq_true rfl) rfl ?_
 intro w160 hS161
 have hb162 := low1 hb158 hS161.grw (by omega)
 refine Xa ?_
 refine Xb ?_
 refine Xu (vs := [.int .i64 q.t.kind, .int .i64 q.t.lab.s, .int .i64 q.t.lab.v, .int .i64 q.t.ve, .int .i64 q.t.num, .slice (some ⟨B136, 0, none⟩) q.t.slots.length q.t.slots.length, .slice (some ⟨B149, 0, none⟩) q.t.queue.length q.t.queue.length, .int .i64 q.t.to]) Y0 rfl rfl (hS161.blk.rangeL 0 8 rfl) rfl ?_
 have k163 := (((k147.grown0 hg152).grown hS157.grw (Xf (by omega))).grown hS161.grw (Xf (by omega)))
 refine Xz (vs := [.int .i64 q.t.kind, .int .i64 q.t.lab.s, .int .i64 q.t.lab.v, .int .i64 q.t.ve, .int .i64 q.t.num, .slice (some ⟨B136, 0, none⟩) q.t.slots.length q.t.slots.length, .slice (some ⟨B149, 0, none⟩) q.t.queue.length q.t.queue.length, .int .i64 q.t.to]) (cs' := #[.int .i64 q.t.kind, .int .i64 q.t.lab.s, .int .i64 q.t.lab.v, .int .i64 q.t.ve, .int .i64 q.t.num, .slice (some ⟨B136, 0, none⟩) q.t.slots.length q.t.slots.length, .slice (some ⟨B149, 0, none⟩) q.t.queue.length q.t.queue.length, .int .i64 q.t.to]) Y0 rfl rfl rfl (by simp [Value.oneCell']) k163 (Nat.le_of_ble_eq_true rfl) rfl ?_
 intro w164 hS165
 have hb166 := low1 hb162 hS165.grw (by omega)
 refine Xa ?_
 refine Xs ?_
 have k167 := ((((k148.grown0 hg152).grown hS157.grw (Xf (by omega))).grown hS161.grw (Xf (by omega))).grown hS165.grw (Xf (by omega)))
 have k168 := (((k151.grown hS157.grw (Xf (by omega))).grown hS161.grw (Xf (by omega))).grown hS165.grw (Xf (by omega)))
 refine ⟨.agg #[.int .i64 q.t.kind, .int .i64 q.t.lab.s, .int .i64 q.t.lab.v, .int .i64 q.t.ve, .int .i64 q.t.num, .slice (some ⟨B136, 0, none⟩) q.t.slots.length q.t.slots.length, .slice (some ⟨B149, 0, none⟩) q.t.queue.length q.t.queue.length, .int .i64 q.t.to], Zx rfl (Yh (vs := [.int .i64 q.t.kind, .int .i64 q.t.lab.s, .int .i64 q.t.lab.v, .int .i64 q.t.ve, .int .i64 q.t.num, .slice (some ⟨B136, 0, none⟩) q.t.slots.length q.t.slots.length, .slice (some ⟨B149, 0, none⟩) q.t.queue.length q.t.queue.length, .int .i64 q.t.to]) Y0 rfl rfl (hS165.blk.rangeL 0 8 rfl)), ⟨q.t, some ⟨B136, 0, none⟩, q.t.slots.length, some ⟨B149, 0, none⟩, q.t.queue.length⟩, rfl, rfl, fun b hb => ⟨SlX.rows Zw k167 (Xf (by omega)), SlX.rows Ys k168 (Xf (by omega)), (fun h => by cases h), (fun h => by cases h)⟩, hb166⟩
theorem Vb (w : World) (ms : List MTh) (a : Option Addr) (c : Nat) (ht : TabAt w a ms) (hlen : TabLen ms) (hn : ms.length ≤ 1048576) : CallsR Tryd.prog 11 #[.slice a ms.length c] w (fun v w' => ∃ (B : Nat) (ys : List MTh), v = .slice (some ⟨B, 0, none⟩) ys.length ys.length ∧ tabT ys = tabT ms ∧ w.heap.size ≤ B ∧ Blk w' B 43 (ys.flatMap MTh.cells).toArray ∧ (∀ m ∈ ys, ThX (some B) w' m) ∧ w.grownBy w' none) := by
 refine X0 (n := 23) Tryd.func11 rfl Tryd.ntmps11 rfl ?_
 have hb0 := World.grownBy.refl w none
 refine Xb ?_
 refine Xh (v := .slice none 0 0) rfl rfl ?_
 refine Xa ?_
 refine Xb ?_
 refine Xc (v := .slice a ms.length c) rfl rfl ?_
 refine Ym (by kernel_rfl) rfl rfl ?_
 refine Kz (g := MTh.cells) (z := MTh.zero) (c := ms.length) Td rfl Zy (by omega) rfl rfl (by omega) (by omega) rfl ?_
 intro B101 w102 hN103
 have hlB101 := Yf hN103 hb0
 have hb104 := low0 hb0 hN103.grw
 refine Xh (v := .slice (some ⟨B101, 0, none⟩) ms.length ms.length) rfl rfl ?_
 refine Xa ?_
 refine Xt ?_
 refine Xb ?_
 refine Xh (v := .int .i64 0) rfl rfl ?_
 refine Xa ?_
 refine Ye ?_
 refine Zd (fun mm f' w' => ∃ (k : Nat) (ys : List MTh), mm = ms.length - k ∧ k ≤ ms.length ∧ ys.length = k ∧ tabT ys = (tabT ms).take k ∧ (∀ x ∈ ys, ThX (some B101) w' x) ∧ f' 4 = .int .i64 (k : Int) ∧ f' 0 = .slice a ms.length c ∧ f' 2 = .slice none 0 0 ∧ f' 3 = .slice (some ⟨B101, 0, none⟩) ms.length ms.length ∧ w.grownBy w' none ∧ Blk w' B101 43 ((padM ms.length ys).flatMap MTh.cells).toArray) (ms.length - 0) ⟨0, ([] : List MTh), rfl, (Nat.zero_le _), rfl, rfl, (fun x hx => by simp at hx), rfl, rfl, rfl, rfl, hb104, (by rw [Nb]; exact hN103.blk)⟩ ?_
 rintro mm f105 w106 ⟨k, ys, hm108, hk, hyk, hyt, hya, e109, e110, e111, e112, hb107, k113⟩
 refine Xt ?_
 refine Xb ?_
 refine Xc (v := .int .i64 (k : Int)) e109 rfl ?_
 refine Xc (v := .slice a ms.length c) e110 rfl ?_
 refine Ym (by kernel_rfl) rfl rfl ?_
 refine Y4 (q := decide ((k : Int) < (ms.length : Int))) rfl rfl rfl rfl ?_
 refine Xa ?_
 refine Xw rfl (fun h114 => ?_) (fun h114 => ?_)
 ·
  have h115 := of_decide_eq_true h114
  refine Xy ?_
  refine Xv ?_
  refine Xt ?_
  refine Ye ?_
  refine X1 ?_
  refine Xc (v := .slice (some ⟨B101, 0, none⟩) ms.length ms.length) e112 rfl ?_
  refine Xc (v := .int .i64 (k : Int)) e109 rfl ?_
  refine Xc (v := .slice a ms.length c) e110 rfl ?_
  refine Xc (v := .int .i64 (k : Int)) e109 rfl ?_
  obtain ⟨b118, q119, o120, ha121, ho122, hr123⟩ := SlAt.at (TabAt.low ht hb107).1 (Yn (Ya (show k < ms.length by omega)))
  have hle124 := TabLen.at hlen (Ya (show k < ms.length by omega))
  refine Yd Ta rfl rfl ha121 ho122 (by omega) (by omega) rfl ?_
  refine Xu (vs := [.int .i64 ((mAt ms k).t.kind), .int .i64 ((mAt ms k).t.lab.s), .int .i64 ((mAt ms k).t.lab.v), .int .i64 ((mAt ms k).t.ve), .int .i64 ((mAt ms k).t.num), .slice ((mAt ms k).sa) ((mAt ms k).t.slots.length) ((mAt ms k).sc), .slice ((mAt ms k).qa) ((mAt ms k).t.queue.length) ((mAt ms k).qc), .int .i64 ((mAt ms k).t.to)]) Sx rfl rfl (Za hr123 0 8 rfl) rfl ?_
  refine Xn (vs := [.agg #[.int .i64 ((mAt ms k).t.kind), .int .i64 ((mAt ms k).t.lab.s), .int .i64 ((mAt ms k).t.lab.v), .int .i64 ((mAt ms k).t.ve), .int .i64 ((mAt ms k).t.num), .slice ((mAt ms k).sa) ((mAt ms k).t.slots.length) ((mAt ms k).sc), .slice ((mAt ms k).qa) ((mAt ms k).t.queue.length) ((mAt ms k).qc), .int .i64 ((mAt ms k).t.to)]]) Bc (Xg rfl Xm) rfl (Ns _ (mAt ms k) (TabAt.th (TabAt.low ht hb107) (Ya (show k < ms.length by omega))) (by omega)) ?_
  rintro _ w129 ⟨m125, rfl, he126, hX127, hg128⟩
  have hb130 := low0 hb107 hg128
  refine X8 (o' := k * 8) Zl rfl rfl (by omega) (by omega) (by omega) rfl ?_
  have k131 := (k113.grown0 hg128)
  refine Xz (vs := [.int .i64 m125.t.kind, .int .i64 m125.t.lab.s, .int .i64 m125.t.lab.v, .int .i64 m125.t.ve, .int .i64 m125.t.num, .slice m125.sa m125.t.slots.length m125.sc, .slice m125.qa m125.t.queue.length m125.qc, .int .i64 m125.t.to]) (cs' := (((padM ms.length ys).set k m125).flatMap MTh.cells).toArray) Y0 rfl rfl rfl (by simp [Value.oneCell']) k131 (Ww Zy (by rw [Hh (by omega)]; omega)) (Vt Zy (by rw [Hh (by omega)]; omega) m125) ?_
  intro w132 hS133
  have hb134 := low1 hb130 hS133.grw (by omega)
  refine Xa ?_
  refine Yy ?_
  refine Xv ?_
  refine X1 ?_
  refine Xc (v := .int .i64 (k : Int)) e109 rfl ?_
  refine Yx (c := (k : Int) + 1) rfl rfl (by omega) (by omega) (by omega) rfl ?_
  refine Xh (v := .int .i64 ((k : Int) + 1)) rfl rfl ?_
  refine Xa ?_
  refine Xv ?_
  exact ⟨ms.length - (k + 1), by omega, (k + 1), (ys ++ [m125]), rfl, (by omega), (by rw [List.length_append, hyk]; rfl), (Nv hyt (Ya (show k < ms.length by omega)) he126), (fun x hx => by rcases List.mem_append.1 hx with h | h; exact (((hya x h).low hg128).grown hS133.grw); (have e := List.mem_singleton.1 h; subst e; exact ((hX127 B101 (k113).lt).grown hS133.grw))), rfl, e110, e111, e112, hb134, (by have kk := hS133.blk; rw [P2 hyk (by omega)] at kk; exact kk)⟩
 ·
  have h135 := of_decide_eq_false h114
  refine Y5 ?_
  refine Y2 ?_
  refine Y2 ?_
  refine Z1 ?_
  refine Xv ?_
  refine Xb ?_
  refine Xc (v := .slice (some ⟨B101, 0, none⟩) ms.length ms.length) e112 rfl ?_
  refine Xh (v := .slice (some ⟨B101, 0, none⟩) ms.length ms.length) rfl rfl ?_
  refine Xa ?_
  refine Xs ?_
  have hyl : ys.length = ms.length := by omega
  have kk := k113
  rw [N9 hyl] at kk
  refine ⟨.slice (some ⟨B101, 0, none⟩) ms.length ms.length, Yq rfl rfl, B101, ys, by rw [hyl], Rp hyt (by omega), hlB101, kk, hya, hb107⟩
theorem Hq (w : World) (ms ps : List MTh) (a b : Option Addr) (c e : Nat) (ht : TabAt w a ms) (hp : TabAt w b ps) (hlen : TabLen ms) (hlep : TabLen ps) (hn : ms.length ≤ 1048576) (hm : ps.length ≤ 1048576) : CallsR Tryd.prog 14 #[.slice a ms.length c, .slice b ps.length e] w (fun v w' => v = .bool (decide (tabT ms = tabT ps)) ∧ w.grownBy w' none) := by
 refine X0 (n := 27) Tryd.func14 rfl Tryd.ntmps14 rfl ?_
 have hb0 := World.grownBy.refl w none
 refine Xb ?_
 refine Xh (v := .bool false) rfl rfl ?_
 refine Xa ?_
 refine Xt ?_
 refine Xb ?_
 refine Xc (v := .slice a ms.length c) rfl rfl ?_
 refine Ym (by kernel_rfl) rfl rfl ?_
 refine Xc (v := .slice b ps.length e) rfl rfl ?_
 refine Ym (by kernel_rfl) rfl rfl ?_
 refine Y7 (q := !(decide ((ms.length : Int) = (ps.length : Int)))) rfl rfl rfl rfl ?_
 refine Xa ?_
 refine Xw rfl (fun h101 => ?_) (fun h101 => ?_)
 ·
  have h102 := Zn h101
  have h103 := of_decide_eq_false h102
  refine Xb ?_
  refine Xh (v := .bool false) rfl rfl ?_
  refine Xa ?_
  refine Xs ?_
  refine Yi ?_
  refine ⟨.bool false, Yq rfl rfl, ?_, hb0⟩
  exact congrArg Value.bool (decide_eq_false (fun h => by have := J7 h; omega)).symm
 ·
  have h104 := Zh h101
  have h105 := of_decide_eq_true h104
  refine Xy ?_
  refine Xv ?_
  refine Xt ?_
  refine Xb ?_
  refine Xh (v := .int .i64 0) rfl rfl ?_
  refine Xa ?_
  refine Ye ?_
  refine Zd (fun mm f' w' => ∃ (k : Nat), mm = ms.length - k ∧ k ≤ ms.length ∧ (tabT ms).take k = (tabT ps).take k ∧ f' 5 = .int .i64 (k : Int) ∧ f' 0 = .slice a ms.length c ∧ f' 1 = .slice b ps.length e ∧ w.grownBy w' none) (ms.length - 0) ⟨0, rfl, (Nat.zero_le _), rfl, rfl, rfl, rfl, hb0⟩ ?_
  rintro mm f106 w107 ⟨k, hm109, hk, ha, e110, e111, e112, hb108⟩
  refine Xt ?_
  refine Xb ?_
  refine Xc (v := .int .i64 (k : Int)) e110 rfl ?_
  refine Xc (v := .slice a ms.length c) e111 rfl ?_
  refine Ym (by kernel_rfl) rfl rfl ?_
  refine Y4 (q := decide ((k : Int) < (ms.length : Int))) rfl rfl rfl rfl ?_
  refine Xa ?_
  refine Xw rfl (fun h113 => ?_) (fun h113 => ?_)
  ·
   have h114 := of_decide_eq_true h113
   refine Xy ?_
   refine Xv ?_
   refine Xt ?_
   refine Ye ?_
   refine Xt ?_
   obtain ⟨b159, q160, o161, ha162, ho163, hr164⟩ := SlAt.at (TabAt.low ht hb108).1 (Yn (Ya (show k < ms.length by omega)))
   have hle165 := TabLen.at hlen (Ya (show k < ms.length by omega))
   obtain ⟨b168, q169, o170, ha171, ho172, hr173⟩ := SlAt.at (TabAt.low hp hb108).1 (Yn (Ya (show k < ps.length by omega)))
   have hle174 := TabLen.at hlep (Ya (show k < ps.length by omega))
   refine Ze (m := 8) (vals := [(17, .slice a ms.length c), (18, .int .i64 (k : Int)), (19, .pointer (some ⟨b159, o161, none⟩)), (20, .agg #[.int .i64 ((mAt ms k).t.kind), .int .i64 ((mAt ms k).t.lab.s), .int .i64 ((mAt ms k).t.lab.v), .int .i64 ((mAt ms k).t.ve), .int .i64 ((mAt ms k).t.num), .slice ((mAt ms k).sa) ((mAt ms k).t.slots.length) ((mAt ms k).sc), .slice ((mAt ms k).qa) ((mAt ms k).t.queue.length) ((mAt ms k).qc), .int .i64 ((mAt ms k).t.to)]), (21, .slice b ps.length e), (22, .int .i64 (k : Int)), (23, .pointer (some ⟨b168, o170, none⟩)), (24, .agg #[.int .i64 ((mAt ps k).t.kind), .int .i64 ((mAt ps k).t.lab.s), .int .i64 ((mAt ps k).t.lab.v), .int .i64 ((mAt ps k).t.ve), .int .i64 ((mAt ps k).t.num), .slice ((mAt ps k).sa) ((mAt ps k).t.slots.length) ((mAt ps k).sc), .slice ((mAt ps k).qa) ((mAt ps k).t.queue.length) ((mAt ps k).qc), .int .i64 ((mAt ps k).t.to)])]) (fun w' => w107.grownBy w' none) Zi (by kernel_rfl) (Yl _) ?_ ?_
   ·
    refine Xj rfl (fun w178 hi179 => ?_) ?_
    ·
     have hb180 := low0 hb108 hi179
     refine Xc (v := .slice a ms.length c) e111 rfl ?_
     exact Xa ⟨rfl, hi179⟩
    refine Xj rfl (fun w181 hi182 => ?_) ?_
    ·
     have hb183 := low0 hb108 hi182
     refine Xc (v := .int .i64 (k : Int)) e110 rfl ?_
     exact Xa ⟨rfl, hi182⟩
    refine Xj rfl (fun w184 hi185 => ?_) ?_
    ·
     have hb186 := low0 hb108 hi185
     refine Yd Zl rfl rfl ha162 ho163 (by omega) (by omega) rfl ?_
     exact Xa ⟨rfl, hi185⟩
    refine Xj rfl (fun w187 hi188 => ?_) ?_
    ·
     have hb189 := low0 hb108 hi188
     refine Xu (vs := [.int .i64 ((mAt ms k).t.kind), .int .i64 ((mAt ms k).t.lab.s), .int .i64 ((mAt ms k).t.lab.v), .int .i64 ((mAt ms k).t.ve), .int .i64 ((mAt ms k).t.num), .slice ((mAt ms k).sa) ((mAt ms k).t.slots.length) ((mAt ms k).sc), .slice ((mAt ms k).qa) ((mAt ms k).t.queue.length) ((mAt ms k).qc), .int .i64 ((mAt ms k).t.to)]) Y0 rfl rfl (Za (Yo hr164 hi188) 0 8 rfl) rfl ?_
     exact Xa ⟨rfl, hi188⟩
    refine Xj rfl (fun w190 hi191 => ?_) ?_
    ·
     have hb192 := low0 hb108 hi191
     refine Xc (v := .slice b ps.length e) e112 rfl ?_
     exact Xa ⟨rfl, hi191⟩
    refine Xj rfl (fun w193 hi194 => ?_) ?_
    ·
     have hb195 := low0 hb108 hi194
     refine Xc (v := .int .i64 (k : Int)) e110 rfl ?_
     exact Xa ⟨rfl, hi194⟩
    refine Xj rfl (fun w196 hi197 => ?_) ?_
    ·
     have hb198 := low0 hb108 hi197
     refine Yd Zl rfl rfl ha171 ho172 (by omega) (by omega) rfl ?_
     exact Xa ⟨rfl, hi197⟩
    refine Xj rfl (fun w199 hi200 => ?_) ?_
    ·
     have hb201 := low0 hb108 hi200
     refine Xu (vs := [.int .i64 ((mAt ps k).t.kind), .int .i64 ((mAt ps k).t.lab.s), .int .i64 ((mAt ps k).t.lab.v), .int .i64 ((mAt ps k).t.ve), .int .i64 ((mAt ps k).t.num), .slice ((mAt ps k).sa) ((mAt ps k).t.slots.length) ((mAt ps k).sc), .slice ((mAt ps k).qa) ((mAt ps k).t.queue.length) ((mAt ps k).qc), .int .i64 ((mAt ps k).t.to)]) Y0 rfl rfl (Za (Yo hr173 hi200) 0 8 rfl) rfl ?_
     exact Xa ⟨rfl, hi200⟩
    exact Zj
   ·
    intro w202 hi203
    have hb204 := low0 hb108 hi203
    refine Xn (vs := [.agg #[.int .i64 ((mAt ms k).t.kind), .int .i64 ((mAt ms k).t.lab.s), .int .i64 ((mAt ms k).t.lab.v), .int .i64 ((mAt ms k).t.ve), .int .i64 ((mAt ms k).t.num), .slice ((mAt ms k).sa) ((mAt ms k).t.slots.length) ((mAt ms k).sc), .slice ((mAt ms k).qa) ((mAt ms k).t.queue.length) ((mAt ms k).qc), .int .i64 ((mAt ms k).t.to)], .agg #[.int .i64 ((mAt ps k).t.kind), .int .i64 ((mAt ps k).t.lab.s), .int .i64 ((mAt ps k).t.lab.v), .int .i64 ((mAt ps k).t.ve), .int .i64 ((mAt ps k).t.num), .slice ((mAt ps k).sa) ((mAt ps k).t.slots.length) ((mAt ps k).sc), .slice ((mAt ps k).qa) ((mAt ps k).t.queue.length) ((mAt ps k).qc), .int .i64 ((mAt ps k).t.to)]]) Md (Xg rfl (Xg rfl Xm)) rfl (Nw (mAt ms k) (mAt ps k) _ (TabAt.th (TabAt.low ht hb204) (Ya (show k < ms.length by omega))) (TabAt.th (TabAt.low hp hb204) (Ya (show k < ps.length by omega))) ⟨by first | omega | exact Nat.le_of_ble_eq_true rfl | (simp only [List.length_nil, List.length_cons, List.length_append, List.length_replicate]; omega), by first | omega | exact Nat.le_of_ble_eq_true rfl | (simp only [List.length_nil, List.length_cons, List.length_append, List.length_replicate]; omega)⟩ ⟨by first | omega | exact Nat.le_of_ble_eq_true rfl | (simp only [List.length_nil, List.length_cons, List.length_append, List.length_replicate]; omega), by first | omega | exact Nat.le_of_ble_eq_true rfl | (simp only [List.length_nil, List.length_cons, List.length_append, List.length_replicate]; omega)⟩) ?_
    rintro _ w205 ⟨rfl, hg206⟩
    have hb207 := low0 hb204 hg206
    refine Yk (b' := !(decide ((mAt ms k).t = (mAt ps k).t))) rfl rfl rfl ?_
    refine Xa ?_
    refine Xv ?_
    refine Xw rfl (fun h208 => ?_) (fun h208 => ?_)
    ·
     have h209 := Zn h208
     have h210 := of_decide_eq_false h209
     refine Xb ?_
     refine Xh (v := .bool false) rfl rfl ?_
     refine Xa ?_
     refine Xs ?_
     refine Y6 ?_
     refine Yi ?_
     refine Yi ?_
     refine Y6 ?_
     refine Yi ?_
     refine ⟨.bool false, Yq rfl rfl, ?_, hb207⟩
     exact congrArg Value.bool (decide_eq_false (Ul (Km (by omega)) (Km (by omega)) (of_decide_eq_false h209))).symm
    ·
     have h211 := Zh h208
     have h212 := of_decide_eq_true h211
     refine Xy ?_
     refine Yy ?_
     refine Xv ?_
     refine X1 ?_
     refine Xc (v := .int .i64 (k : Int)) e110 rfl ?_
     refine Yx (c := (k : Int) + 1) rfl rfl (by omega) (by omega) (by omega) rfl ?_
     refine Xh (v := .int .i64 ((k : Int) + 1)) rfl rfl ?_
     refine Xa ?_
     refine Xv ?_
     exact ⟨ms.length - (k + 1), by omega, (k + 1), rfl, (by omega), (Kp ha (Km (by omega)) (Km (by omega)) (of_decide_eq_true h211)), rfl, e111, e112, hb207⟩
  ·
   have h213 := of_decide_eq_false h113
   refine Y5 ?_
   refine Y2 ?_
   refine Y2 ?_
   refine Z1 ?_
   refine Xv ?_
   refine Xb ?_
   refine Xh (v := .bool true) rfl rfl ?_
   refine Xa ?_
   refine Xs ?_
   refine ⟨.bool true, Yq rfl rfl, ?_, hb108⟩
   exact congrArg Value.bool (decide_eq_true (Vd ha (by rw [Zz]; omega) (by rw [Zz]; omega))).symm
theorem Qi (k : Int) (w : World) (a : Option Addr) (n c : Nat) : CallsR Tryd.prog 34 #[.slice a n c, .int .i64 k] w (fun v w' => v = .bool (inR k 1 (n : Int)) ∧ w.grownBy w' none) := by
 refine X0 (n := 9) Tryd.func34 rfl Tryd.ntmps34 rfl ?_
 have hb0 := World.grownBy.refl w none
 refine Xb ?_
 refine Xh (v := .bool false) rfl rfl ?_
 refine Xa ?_
 refine Xb ?_
 refine Xc (v := .int .i64 k) rfl rfl ?_
 refine Xc (v := .slice a n c) rfl rfl ?_
 refine Ym (by kernel_rfl) rfl rfl ?_
 refine Xn (vs := [.int .i64 k, .int .i64 1, .int .i64 (n : Int)]) Ju (Xg rfl (Xg rfl (Xg rfl Xm))) rfl (Z0 k 1 (n : Int) _) ?_
 rintro _ w101 ⟨rfl, hg102⟩
 have hb103 := low0 hb0 hg102
 refine Xh (v := .bool (inR k 1 (n : Int))) rfl rfl ?_
 refine Xa ?_
 refine Xs ?_
 refine ⟨.bool (inR k 1 (n : Int)), Yq rfl rfl, ?_, hb103⟩
 rfl
theorem Vp (k kd : Int) (hk : -9223372036854775807 ≤ k) (w : World) (ms : List MTh) (a : Option Addr) (c : Nat) (ht : TabAt w a ms) (hlen : TabLen ms) (hn : ms.length ≤ 1048576) : CallsR Tryd.prog 33 #[.slice a ms.length c, .int .i64 k, .int .i64 kd] w (fun v w' => v = .bool (kindAt (tabT ms) k kd) ∧ w.grownBy w' none) := by
 refine X0 (n := 20) Tryd.func33 rfl Tryd.ntmps33 rfl ?_
 have hb0 := World.grownBy.refl w none
 refine Xb ?_
 refine Xh (v := .bool false) rfl rfl ?_
 refine Xa ?_
 refine X2 (fun f' w' => (f' 6 = .bool (inR k 1 (ms.length : Int) && (decide ((mAt ms ((k - 1).toNat)).t.kind = kd)))) ∧ w.grownBy w' none) ?_ ?_
 ·
  refine Xc (v := .slice a ms.length c) rfl rfl ?_
  refine Xc (v := .int .i64 k) rfl rfl ?_
  refine Xn (vs := [.slice a ms.length c, .int .i64 k]) Ux (Xg rfl (Xg rfl Xm)) rfl (Qi k _ _ _ _) ?_
  rintro _ w116 ⟨rfl, hg117⟩
  have hb118 := low0 hb0 hg117
  refine Xc (v := .bool (inR k 1 (ms.length : Int))) rfl rfl ?_
  rcases Yb (inR k 1 (ms.length : Int)) with h119 | h119
  ·
   have hr120 := Zb.1 h119
   refine Xe rfl rfl rfl h119 ?_
   refine Xc (v := .slice a ms.length c) rfl rfl ?_
   refine Xe rfl rfl rfl h119 ?_
   refine Xc (v := .int .i64 k) rfl rfl ?_
   refine Xe rfl rfl rfl h119 ?_
   refine Y3 (c := k - 1) rfl rfl (by omega) (by omega) (by omega) rfl ?_
   refine Xe rfl rfl rfl h119 ?_
   obtain ⟨b123, q124, o125, ha126, ho127, hr128⟩ := SlAt.at (TabAt.low ht hb118).1 (Yn (Ya (show (k - 1).toNat < ms.length by omega)))
   have hle129 := TabLen.at hlen (Ya (show (k - 1).toNat < ms.length by omega))
   refine Yd Zl rfl rfl ha126 ho127 (by omega) (by omega) rfl ?_
   refine Xe rfl rfl rfl h119 ?_
   refine Xd (o' := o125) Yt rfl rfl rfl ?_
   refine Xe rfl rfl rfl h119 ?_
   refine Xi (v := .int .i64 ((mAt ms ((k - 1).toNat)).t.kind)) X3 rfl (hr128 0 _ rfl) rfl ?_
   refine Xe rfl rfl rfl h119 ?_
   refine Xc (v := .int .i64 kd) rfl rfl ?_
   refine Xe rfl rfl rfl h119 ?_
   refine X4 (q := decide ((mAt ms ((k - 1).toNat)).t.kind = kd)) rfl rfl rfl rfl ?_
   refine Xr (v := .bool (decide ((mAt ms ((k - 1).toNat)).t.kind = kd))) rfl h119 rfl rfl ?_
   refine Xh (v := .bool (decide ((mAt ms ((k - 1).toNat)).t.kind = kd))) rfl rfl ?_
   exact Xa ⟨(congrArg Value.bool (by first | (simp only [h119, b0, b1, b2, b3, b4, b5, b6, b7, b8, b9]; done) | simp [h119])), hg117⟩
  ·
   iterate 8 refine Xk rfl rfl rfl h119 rfl ?_
   refine Xl (v := .bool false) rfl h119 rfl rfl ?_
   refine Xh (v := .bool false) rfl rfl ?_
   exact Xa ⟨(congrArg Value.bool (by first | (simp only [h119, b0, b1, b2, b3, b4, b5, b6, b7, b8, b9]; done) | simp [h119])), hg117⟩
 ·
  rintro f130 w131 ⟨e132, hg133⟩
  have hb134 := low0 hb0 hg133
  refine Xs ?_
  refine ⟨.bool (inR k 1 (ms.length : Int) && (decide ((mAt ms ((k - 1).toNat)).t.kind = kd))), Yq rfl e132, ?_, hb134⟩
  exact congrArg Value.bool Vk
theorem Vg (w : World) (ms : List MTh) (a : Option Addr) (c : Nat) (ht : TabAt w a ms) (hlen : TabLen ms) (hn : ms.length ≤ 1048576) : CallsR Tryd.prog 19 #[.slice a ms.length c] w (fun v w' => v = .bool (tableOk (tabT ms)) ∧ w.grownBy w' none) := by
 refine X0 (n := 92) Tryd.func19 rfl Tryd.ntmps19 rfl ?_
 have hb0 := World.grownBy.refl w none
 refine Xb ?_
 refine Xh (v := .bool false) rfl rfl ?_
 refine Xa ?_
 refine Xt ?_
 refine Xb ?_
 refine Xh (v := .int .i64 0) rfl rfl ?_
 refine Xa ?_
 refine Ye ?_
 refine Zd (fun mm f' w' => ∃ (k : Nat), mm = ms.length - k ∧ k ≤ ms.length ∧ (((tabT ms).take k).all (rowOk (tabT ms))) = true ∧ f' 3 = .int .i64 (k : Int) ∧ f' 0 = .slice a ms.length c ∧ w.grownBy w' none) (ms.length - 0) ⟨0, rfl, (Nat.zero_le _), rfl, rfl, rfl, hb0⟩ ?_
 rintro mm f101 w102 ⟨k, hm104, hk, hall, e105, e106, hb103⟩
 refine Xt ?_
 refine Xb ?_
 refine Xc (v := .int .i64 (k : Int)) e105 rfl ?_
 refine Xc (v := .slice a ms.length c) e106 rfl ?_
 refine Ym (by kernel_rfl) rfl rfl ?_
 refine Y4 (q := decide ((k : Int) < (ms.length : Int))) rfl rfl rfl rfl ?_
 refine Xa ?_
 refine Xw rfl (fun h107 => ?_) (fun h107 => ?_)
 ·
  have h108 := of_decide_eq_true h107
  refine Xy ?_
  refine Xv ?_
  refine Xt ?_
  refine Ye ?_
  refine Xt ?_
  refine X2 (fun f' w' => (f' 0 = .slice a ms.length c ∧ f' 3 = .int .i64 (k : Int) ∧ f' 48 = .bool ((!thingOk (mAt ms k).t) || ((decide ((mAt ms k).t.kind = 5)) && ((decide ((ms.length : Int) < (mAt ms k).t.to)) || (!(decide ((mAt ms ((((mAt ms k).t.to) - 1).toNat)).t.kind = 1))))))) ∧ w102.grownBy w' none) ?_ ?_
  ·
   refine Xc (v := .slice a ms.length c) e106 rfl ?_
   refine Xc (v := .int .i64 (k : Int)) e105 rfl ?_
   obtain ⟨b144, q145, o146, ha147, ho148, hr149⟩ := SlAt.at (TabAt.low ht hb103).1 (Yn (Ya (show k < ms.length by omega)))
   have hle150 := TabLen.at hlen (Ya (show k < ms.length by omega))
   refine Yd Zl rfl rfl ha147 ho148 (by omega) (by omega) rfl ?_
   refine Xu (vs := [.int .i64 ((mAt ms k).t.kind), .int .i64 ((mAt ms k).t.lab.s), .int .i64 ((mAt ms k).t.lab.v), .int .i64 ((mAt ms k).t.ve), .int .i64 ((mAt ms k).t.num), .slice ((mAt ms k).sa) ((mAt ms k).t.slots.length) ((mAt ms k).sc), .slice ((mAt ms k).qa) ((mAt ms k).t.queue.length) ((mAt ms k).qc), .int .i64 ((mAt ms k).t.to)]) Y0 rfl rfl (Za hr149 0 8 rfl) rfl ?_
   refine Xn (vs := [.agg #[.int .i64 ((mAt ms k).t.kind), .int .i64 ((mAt ms k).t.lab.s), .int .i64 ((mAt ms k).t.lab.v), .int .i64 ((mAt ms k).t.ve), .int .i64 ((mAt ms k).t.num), .slice ((mAt ms k).sa) ((mAt ms k).t.slots.length) ((mAt ms k).sc), .slice ((mAt ms k).qa) ((mAt ms k).t.queue.length) ((mAt ms k).qc), .int .i64 ((mAt ms k).t.to)]]) Hb (Xg rfl Xm) rfl (J4 (mAt ms k) _ (TabAt.th (TabAt.low ht hb103) (Ya (show k < ms.length by omega))).1 (TabAt.th (TabAt.low ht hb103) (Ya (show k < ms.length by omega))).2.1 (by first | omega | exact Nat.le_of_ble_eq_true rfl | (simp only [List.length_nil, List.length_cons, List.length_append, List.length_replicate]; omega)) (by first | omega | exact Nat.le_of_ble_eq_true rfl | (simp only [List.length_nil, List.length_cons, List.length_append, List.length_replicate]; omega))) ?_
   rintro _ w151 ⟨rfl, hg152⟩
   have hb153 := low0 hb103 hg152
   refine Yk (b' := !thingOk (mAt ms k).t) rfl rfl rfl ?_
   refine Xc (v := .bool (!thingOk (mAt ms k).t)) rfl rfl ?_
   rcases Yb (!thingOk (mAt ms k).t) with h154 | h154
   ·
    have h155 := Zn h154
    iterate 7 refine Xk rfl rfl rfl h154 rfl ?_
    iterate 21 refine Yg rfl rfl rfl rfl ?_
    refine Xk rfl rfl rfl h154 rfl ?_
    refine Xr (v := .bool true) rfl h154 rfl rfl ?_
    exact Xa ⟨⟨e106, e105, (congrArg Value.bool (by first | (simp only [h107, h154, h155, b0, b1, b2, b3, b4, b5, b6, b7, b8, b9]; done) | simp [h107, h154, h155]))⟩, hg152⟩
   ·
    have h156 := Zh h154
    refine Xe rfl rfl rfl h154 ?_
    refine Xc (v := .slice a ms.length c) e106 rfl ?_
    refine Xe rfl rfl rfl h154 ?_
    refine Xc (v := .int .i64 (k : Int)) e105 rfl ?_
    refine Xe rfl rfl rfl h154 ?_
    refine Yd Zl rfl rfl ha147 ho148 (by omega) (by omega) rfl ?_
    refine Xe rfl rfl rfl h154 ?_
    refine Xd (o' := o146) Yt rfl rfl rfl ?_
    refine Xe rfl rfl rfl h154 ?_
    refine Xi (v := .int .i64 ((mAt ms k).t.kind)) X3 rfl ((Yo hr149 hg152) 0 _ rfl) rfl ?_
    refine Xe rfl rfl rfl h154 ?_
    refine X4 (q := decide ((mAt ms k).t.kind = 5)) rfl rfl rfl rfl ?_
    refine Xe rfl rfl rfl h154 ?_
    refine Xc (v := .bool (decide ((mAt ms k).t.kind = 5))) rfl rfl ?_
    rcases Yb (decide ((mAt ms k).t.kind = 5)) with h157 | h157
    ·
     have hgt158 := V7 h156 h157
     have h159 := of_decide_eq_true h157
     refine Xe rfl rfl rfl h157 ?_
     refine Xc (v := .slice a ms.length c) e106 rfl ?_
     refine Xe rfl rfl rfl h157 ?_
     refine Xc (v := .int .i64 (k : Int)) e105 rfl ?_
     refine Xe rfl rfl rfl h157 ?_
     refine Yd Zl rfl rfl ha147 ho148 (by omega) (by omega) rfl ?_
     refine Xe rfl rfl rfl h157 ?_
     refine Xd (o' := o146 + 7) Q6 rfl rfl rfl ?_
     refine Xe rfl rfl rfl h157 ?_
     refine Xi (v := .int .i64 ((mAt ms k).t.to)) X3 rfl ((Yo hr149 hg152) 7 _ rfl) rfl ?_
     refine Xe rfl rfl rfl h157 ?_
     refine Xc (v := .slice a ms.length c) e106 rfl ?_
     refine Xe rfl rfl rfl h157 ?_
     refine Ym (by kernel_rfl) rfl rfl ?_
     refine Xe rfl rfl rfl h157 ?_
     refine Zq (q := decide ((ms.length : Int) < (mAt ms k).t.to)) rfl rfl rfl rfl ?_
     refine Xe rfl rfl rfl h157 ?_
     refine Xc (v := .bool (decide ((ms.length : Int) < (mAt ms k).t.to))) rfl rfl ?_
     rcases Yb (decide ((ms.length : Int) < (mAt ms k).t.to)) with h160 | h160
     ·
      have h161 := of_decide_eq_true h160
      iterate 11 refine Xk rfl rfl rfl h160 rfl ?_
      refine Xe rfl rfl rfl h157 ?_
      refine Xr (v := .bool true) rfl h160 rfl rfl ?_
      refine Xe rfl rfl rfl h154 ?_
      refine Xr (v := .bool true) rfl h157 rfl rfl ?_
      refine Xl (v := .bool true) rfl h154 rfl rfl ?_
      exact Xa ⟨⟨e106, e105, (congrArg Value.bool (by first | (simp only [h107, h154, h156, h157, h160, b0, b1, b2, b3, b4, b5, b6, b7, b8, b9]; done) | simp [h107, h154, h156, h157, h160]))⟩, hg152⟩
     ·
      have h162 := of_decide_eq_false h160
      refine Xe rfl rfl rfl h160 ?_
      refine Xc (v := .slice a ms.length c) e106 rfl ?_
      refine Xe rfl rfl rfl h160 ?_
      refine Xc (v := .slice a ms.length c) e106 rfl ?_
      refine Xe rfl rfl rfl h160 ?_
      refine Xc (v := .int .i64 (k : Int)) e105 rfl ?_
      refine Xe rfl rfl rfl h160 ?_
      refine Yd Zl rfl rfl ha147 ho148 (by omega) (by omega) rfl ?_
      refine Xe rfl rfl rfl h160 ?_
      refine Xd (o' := o146 + 7) Q6 rfl rfl rfl ?_
      refine Xe rfl rfl rfl h160 ?_
      refine Xi (v := .int .i64 ((mAt ms k).t.to)) X3 rfl ((Yo hr149 hg152) 7 _ rfl) rfl ?_
      refine Xe rfl rfl rfl h160 ?_
      refine Y3 (c := ((mAt ms k).t.to) - 1) rfl rfl (by omega) (by omega) (by omega) rfl ?_
      refine Xe rfl rfl rfl h160 ?_
      obtain ⟨b165, q166, o167, ha168, ho169, hr170⟩ := SlAt.at (TabAt.low ht hb153).1 (Yn (Ya (show (((mAt ms k).t.to) - 1).toNat < ms.length by omega)))
      have hle171 := TabLen.at hlen (Ya (show (((mAt ms k).t.to) - 1).toNat < ms.length by omega))
      refine Yd Zl rfl rfl ha168 ho169 (by omega) (by omega) rfl ?_
      refine Xe rfl rfl rfl h160 ?_
      refine Xd (o' := o167) Yt rfl rfl rfl ?_
      refine Xe rfl rfl rfl h160 ?_
      refine Xi (v := .int .i64 ((mAt ms ((((mAt ms k).t.to) - 1).toNat)).t.kind)) X3 rfl (hr170 0 _ rfl) rfl ?_
      refine Xe rfl rfl rfl h160 ?_
      refine Y7 (q := !(decide ((mAt ms ((((mAt ms k).t.to) - 1).toNat)).t.kind = 1))) rfl rfl rfl rfl ?_
      refine Xe rfl rfl rfl h157 ?_
      refine Xl (v := .bool (!(decide ((mAt ms ((((mAt ms k).t.to) - 1).toNat)).t.kind = 1)))) rfl h160 rfl rfl ?_
      refine Xe rfl rfl rfl h154 ?_
      refine Xr (v := .bool (!(decide ((mAt ms ((((mAt ms k).t.to) - 1).toNat)).t.kind = 1)))) rfl h157 rfl rfl ?_
      refine Xl (v := .bool (!(decide ((mAt ms ((((mAt ms k).t.to) - 1).toNat)).t.kind = 1)))) rfl h154 rfl rfl ?_
      exact Xa ⟨⟨e106, e105, (congrArg Value.bool (by first | (simp only [h107, h154, h156, h157, h160, b0, b1, b2, b3, b4, b5, b6, b7, b8, b9]; done) | simp [h107, h154, h156, h157, h160]))⟩, hg152⟩
    ·
     have h172 := of_decide_eq_false h157
     iterate 9 refine Xk rfl rfl rfl h157 rfl ?_
     iterate 11 refine Yg rfl rfl rfl rfl ?_
     refine Xk rfl rfl rfl h157 rfl ?_
     refine Xe rfl rfl rfl h154 ?_
     refine Xl (v := .bool false) rfl h157 rfl rfl ?_
     refine Xl (v := .bool false) rfl h154 rfl rfl ?_
     exact Xa ⟨⟨e106, e105, (congrArg Value.bool (by first | (simp only [h107, h154, h156, h157, b0, b1, b2, b3, b4, b5, b6, b7, b8, b9]; done) | simp [h107, h154, h156, h157]))⟩, hg152⟩
  ·
   rintro f173 w174 ⟨⟨e175, e176, e177⟩, hg178⟩
   have hb179 := low0 hb103 hg178
   refine Xw e177 (fun h180 => ?_) (fun h180 => ?_)
   ·
    refine Xb ?_
    refine Xh (v := .bool false) rfl rfl ?_
    refine Xa ?_
    refine Xs ?_
    refine Yi ?_
    refine Y6 ?_
    refine Yi ?_
    refine Yi ?_
    refine Y6 ?_
    refine Yi ?_
    refine ⟨.bool false, Yq rfl rfl, ?_, hb179⟩
    exact congrArg Value.bool (Pv (by omega) ((Kf rfl).1 h180))
   ·
    have h181 := Qx h180
    have h182 := Zh h181
    have h183 := Qy h180
    refine Xy ?_
    refine Xv ?_
    refine Xb ?_
    refine Xh (v := .int .i64 0) rfl rfl ?_
    refine Xa ?_
    refine Ye ?_
    refine Zd (fun mm f' w' => ∃ (j : Nat), mm = (mAt ms k).t.slots.length - j ∧ j ≤ (mAt ms k).t.slots.length ∧ (((mAt ms k).t.slots.take j).all (rightTo (tabT ms))) = true ∧ f' 4 = .int .i64 (j : Int) ∧ f' 0 = .slice a ms.length c ∧ f' 3 = .int .i64 (k : Int) ∧ w.grownBy w' none) ((mAt ms k).t.slots.length - 0) ⟨0, rfl, (Nat.zero_le _), rfl, rfl, e175, e176, hb179⟩ ?_
    rintro mm f184 w185 ⟨j, hm187, hj, hrs, e188, e189, e190, hb186⟩
    have hR0 : ∀ j, j < (mAt ms k).t.slots.length → 0 ≤ (rAt (mAt ms k).t.slots j).th ∧ (rAt (mAt ms k).t.slots j).th ≤ 8 := fun j hj => Uv ((Kf rfl).2 h180).1 (Qg hj)
    refine Xt ?_
    refine Xb ?_
    refine Xc (v := .int .i64 (j : Int)) e188 rfl ?_
    refine Xc (v := .slice a ms.length c) e189 rfl ?_
    refine Xc (v := .int .i64 (k : Int)) e190 rfl ?_
    obtain ⟨b193, q194, o195, ha196, ho197, hr198⟩ := SlAt.at (TabAt.low ht hb186).1 (Yn (Ya (show k < ms.length by omega)))
    have hle199 := TabLen.at hlen (Ya (show k < ms.length by omega))
    refine Yd Zl rfl rfl ha196 ho197 (by omega) (by omega) rfl ?_
    refine Xd (o' := o195 + 5) Zt rfl rfl rfl ?_
    refine Xi (v := .slice ((mAt ms k).sa) ((mAt ms k).t.slots.length) ((mAt ms k).sc)) Qq rfl (hr198 5 _ rfl) rfl ?_
    refine Ym (by kernel_rfl) rfl rfl ?_
    refine Y4 (q := decide ((j : Int) < ((mAt ms k).t.slots.length : Int))) rfl rfl rfl rfl ?_
    refine Xa ?_
    refine Xw rfl (fun h200 => ?_) (fun h200 => ?_)
    ·
     have h201 := of_decide_eq_true h200
     refine Xy ?_
     refine Xv ?_
     refine Xt ?_
     refine Ye ?_
     refine Xb ?_
     refine Xc (v := .slice a ms.length c) e189 rfl ?_
     refine Xc (v := .int .i64 (k : Int)) e190 rfl ?_
     refine Yd Zl rfl rfl ha196 ho197 (by omega) (by omega) rfl ?_
     refine Xd (o' := o195 + 5) Zt rfl rfl rfl ?_
     refine Xi (v := .slice ((mAt ms k).sa) ((mAt ms k).t.slots.length) ((mAt ms k).sc)) Qq rfl (hr198 5 _ rfl) rfl ?_
     refine Xc (v := .int .i64 (j : Int)) e188 rfl ?_
     obtain ⟨b204, q205, o206, ha207, ho208, hr209⟩ := SlAt.at (TabAt.th (TabAt.low ht hb186) (Ya (show k < ms.length by omega))).1 (Yn (Qg (show j < (mAt ms k).t.slots.length by omega)))
     refine Yd Ka rfl rfl ha207 ho208 (by omega) (by omega) rfl ?_
     refine Xu (vs := [.int .i64 ((rAt (mAt ms k).t.slots j).th), .int .i64 ((rAt (mAt ms k).t.slots j).ve), .bool ((rAt (mAt ms k).t.slots j).rd), .bool ((rAt (mAt ms k).t.slots j).wr), .bool ((rAt (mAt ms k).t.slots j).wk)]) Y8 rfl rfl (Za hr209 0 5 rfl) rfl ?_
     refine Yj (cs := #[.int .i64 0, .int .i64 0, .bool false, .bool false, .bool false]) J3 rfl rfl ?_
     intro B210 w211 hN212
     have hlB210 := Yf hN212 hb186
     have hb213 := low0 hb186 hN212.grw
     refine Xz (vs := [.int .i64 ((rAt (mAt ms k).t.slots j).th), .int .i64 ((rAt (mAt ms k).t.slots j).ve), .bool ((rAt (mAt ms k).t.slots j).rd), .bool ((rAt (mAt ms k).t.slots j).wr), .bool ((rAt (mAt ms k).t.slots j).wk)]) (cs' := #[.int .i64 ((rAt (mAt ms k).t.slots j).th), .int .i64 ((rAt (mAt ms k).t.slots j).ve), .bool ((rAt (mAt ms k).t.slots j).rd), .bool ((rAt (mAt ms k).t.slots j).wr), .bool ((rAt (mAt ms k).t.slots j).wk)]) Y8 rfl rfl rfl (by simp [Value.oneCell']) hN212.blk (Nat.le_of_ble_eq_true rfl) rfl ?_
     intro w214 hS215
     have hb216 := low1 hb213 hS215.grw (by omega)
     refine Xa ?_
     refine Q0 (fun f' w' => (f' 0 = .slice a ms.length c ∧ f' 3 = .int .i64 (k : Int) ∧ f' 4 = .int .i64 (j : Int) ∧ f' 88 = .bool ((decide ((ms.length : Int) < (rAt (mAt ms k).t.slots j).th)) || ((decide (0 < (rAt (mAt ms k).t.slots j).th)) && (decide ((mAt ms ((((rAt (mAt ms k).t.slots j).th) - 1).toNat)).t.ve < (rAt (mAt ms k).t.slots j).ve))))) ∧ w214.grownBy w' none) ?_ ?_
     ·
      rcases Yb (decide ((ms.length : Int) < (rAt (mAt ms k).t.slots j).th)) with h226 | h226
      ·
       have h227 := of_decide_eq_true h226
       refine Ze (m := 19) (vals := [(67, .pointer (some ⟨B210, 0, none⟩)), (68, .int .i64 ((rAt (mAt ms k).t.slots j).th)), (69, .slice a ms.length c), (70, .int .i64 (ms.length : Int)), (71, .bool (decide ((ms.length : Int) < (rAt (mAt ms k).t.slots j).th))), (72, .bool (decide ((ms.length : Int) < (rAt (mAt ms k).t.slots j).th))), (73, undef), (74, undef), (75, undef), (76, undef), (77, undef), (78, undef), (79, undef), (80, undef), (81, undef), (82, undef), (83, undef), (84, undef), (85, undef)]) (fun w' => w214.grownBy w' none) Zi (by kernel_rfl) (Yl _) ?_ ?_
       ·
        refine Xj rfl (fun w228 hi229 => ?_) ?_
        ·
         have hb230 := low0 hb216 hi229
         refine Xd (o' := 0) Yp rfl rfl rfl ?_
         exact Xa ⟨rfl, hi229⟩
        refine Xj rfl (fun w231 hi232 => ?_) ?_
        ·
         have hb233 := low0 hb216 hi232
         have k234 := (hS215.blk.grown0 hi232)
         refine Xi (v := .int .i64 ((rAt (mAt ms k).t.slots j).th)) X3 rfl (k234.cell rfl) rfl ?_
         exact Xa ⟨rfl, hi232⟩
        refine Xj rfl (fun w235 hi236 => ?_) ?_
        ·
         have hb237 := low0 hb216 hi236
         refine Xc (v := .slice a ms.length c) e189 rfl ?_
         exact Xa ⟨rfl, hi236⟩
        refine Xj rfl (fun w238 hi239 => ?_) ?_
        ·
         have hb240 := low0 hb216 hi239
         refine Ym (by kernel_rfl) rfl rfl ?_
         exact Xa ⟨rfl, hi239⟩
        refine Xj rfl (fun w241 hi242 => ?_) ?_
        ·
         have hb243 := low0 hb216 hi242
         refine Zq (q := decide ((ms.length : Int) < (rAt (mAt ms k).t.slots j).th)) rfl rfl rfl rfl ?_
         exact Xa ⟨rfl, hi242⟩
        refine Xj rfl (fun w244 hi245 => ?_) ?_
        ·
         have hb246 := low0 hb216 hi245
         refine Xc (v := .bool (decide ((ms.length : Int) < (rAt (mAt ms k).t.slots j).th))) rfl rfl ?_
         exact Xa ⟨rfl, hi245⟩
        refine Xj rfl (fun w247 hi248 => ?_) ?_
        ·
         have hb249 := low0 hb216 hi248
         refine Xk rfl rfl rfl h226 rfl ?_
         exact Xa ⟨rfl, hi248⟩
        refine Xj rfl (fun w250 hi251 => ?_) ?_
        ·
         have hb252 := low0 hb216 hi251
         refine Xk rfl rfl rfl h226 rfl ?_
         exact Xa ⟨rfl, hi251⟩
        refine Xj rfl (fun w253 hi254 => ?_) ?_
        ·
         have hb255 := low0 hb216 hi254
         refine Xk rfl rfl rfl h226 rfl ?_
         exact Xa ⟨rfl, hi254⟩
        refine Xj rfl (fun w256 hi257 => ?_) ?_
        ·
         have hb258 := low0 hb216 hi257
         refine Xk rfl rfl rfl h226 rfl ?_
         exact Xa ⟨rfl, hi257⟩
        refine Xj rfl (fun w259 hi260 => ?_) ?_
        ·
         have hb261 := low0 hb216 hi260
         refine Yg rfl rfl rfl rfl ?_
         exact Xa ⟨rfl, hi260⟩
        refine Xj rfl (fun w262 hi263 => ?_) ?_
        ·
         have hb264 := low0 hb216 hi263
         refine Yg rfl rfl rfl rfl ?_
         exact Xa ⟨rfl, hi263⟩
        refine Xj rfl (fun w265 hi266 => ?_) ?_
        ·
         have hb267 := low0 hb216 hi266
         refine Yg rfl rfl rfl rfl ?_
         exact Xa ⟨rfl, hi266⟩
        refine Xj rfl (fun w268 hi269 => ?_) ?_
        ·
         have hb270 := low0 hb216 hi269
         refine Yg rfl rfl rfl rfl ?_
         exact Xa ⟨rfl, hi269⟩
        refine Xj rfl (fun w271 hi272 => ?_) ?_
        ·
         have hb273 := low0 hb216 hi272
         refine Yg rfl rfl rfl rfl ?_
         exact Xa ⟨rfl, hi272⟩
        refine Xj rfl (fun w274 hi275 => ?_) ?_
        ·
         have hb276 := low0 hb216 hi275
         refine Yg rfl rfl rfl rfl ?_
         exact Xa ⟨rfl, hi275⟩
        refine Xj rfl (fun w277 hi278 => ?_) ?_
        ·
         have hb279 := low0 hb216 hi278
         refine Yg rfl rfl rfl rfl ?_
         exact Xa ⟨rfl, hi278⟩
        refine Xj rfl (fun w280 hi281 => ?_) ?_
        ·
         have hb282 := low0 hb216 hi281
         refine Yg rfl rfl rfl rfl ?_
         exact Xa ⟨rfl, hi281⟩
        refine Xj rfl (fun w283 hi284 => ?_) ?_
        ·
         have hb285 := low0 hb216 hi284
         refine Yg rfl rfl rfl rfl ?_
         exact Xa ⟨rfl, hi284⟩
        exact Zj
       ·
        intro w286 hi287
        have hb288 := low0 hb216 hi287
        refine Yg rfl rfl rfl rfl ?_
        refine Xk rfl rfl rfl h226 rfl ?_
        refine Xr (v := .bool true) rfl h226 rfl rfl ?_
        exact Xa (Xv ⟨⟨e189, e190, e188, (congrArg Value.bool (by first | (simp only [h107, h180, h181, h182, h183, h200, h226, b0, b1, b2, b3, b4, b5, b6, b7, b8, b9]; done) | simp [h107, h180, h181, h182, h183, h200, h226]))⟩, hi287⟩)
      ·
       have h289 := of_decide_eq_false h226
       rcases Yb (decide (0 < (rAt (mAt ms k).t.slots j).th)) with h290 | h290
       ·
        have h291 := of_decide_eq_true h290
        obtain ⟨b303, q304, o305, ha306, ho307, hr308⟩ := SlAt.at (TabAt.low ht hb216).1 (Yn (Ya (show (((rAt (mAt ms k).t.slots j).th) - 1).toNat < ms.length by omega)))
        have hle309 := TabLen.at hlen (Ya (show (((rAt (mAt ms k).t.slots j).th) - 1).toNat < ms.length by omega))
        refine Ze (m := 19) (vals := [(67, .pointer (some ⟨B210, 0, none⟩)), (68, .int .i64 ((rAt (mAt ms k).t.slots j).th)), (69, .slice a ms.length c), (70, .int .i64 (ms.length : Int)), (71, .bool (decide ((ms.length : Int) < (rAt (mAt ms k).t.slots j).th))), (72, .bool (decide ((ms.length : Int) < (rAt (mAt ms k).t.slots j).th))), (73, .pointer (some ⟨B210, 0, none⟩)), (74, .int .i64 ((rAt (mAt ms k).t.slots j).th)), (75, .bool (decide (0 < (rAt (mAt ms k).t.slots j).th))), (76, .bool (decide (0 < (rAt (mAt ms k).t.slots j).th))), (77, .pointer (some ⟨B210, 1, none⟩)), (78, .int .i64 ((rAt (mAt ms k).t.slots j).ve)), (79, .slice a ms.length c), (80, .pointer (some ⟨B210, 0, none⟩)), (81, .int .i64 ((rAt (mAt ms k).t.slots j).th)), (82, .int .i64 (((rAt (mAt ms k).t.slots j).th) - 1)), (83, .pointer (some ⟨b303, o305, none⟩)), (84, .pointer (some ⟨b303, o305 + 3, none⟩)), (85, .int .i64 ((mAt ms ((((rAt (mAt ms k).t.slots j).th) - 1).toNat)).t.ve))]) (fun w' => w214.grownBy w' none) Zi (by kernel_rfl) (Yl _) ?_ ?_
        ·
         refine Xj rfl (fun w310 hi311 => ?_) ?_
         ·
          have hb312 := low0 hb216 hi311
          refine Xd (o' := 0) Yp rfl rfl rfl ?_
          exact Xa ⟨rfl, hi311⟩
         refine Xj rfl (fun w313 hi314 => ?_) ?_
         ·
          have hb315 := low0 hb216 hi314
          have k316 := (hS215.blk.grown0 hi314)
          refine Xi (v := .int .i64 ((rAt (mAt ms k).t.slots j).th)) X3 rfl (k316.cell rfl) rfl ?_
          exact Xa ⟨rfl, hi314⟩
         refine Xj rfl (fun w317 hi318 => ?_) ?_
         ·
          have hb319 := low0 hb216 hi318
          refine Xc (v := .slice a ms.length c) e189 rfl ?_
          exact Xa ⟨rfl, hi318⟩
         refine Xj rfl (fun w320 hi321 => ?_) ?_
         ·
          have hb322 := low0 hb216 hi321
          refine Ym (by kernel_rfl) rfl rfl ?_
          exact Xa ⟨rfl, hi321⟩
         refine Xj rfl (fun w323 hi324 => ?_) ?_
         ·
          have hb325 := low0 hb216 hi324
          refine Zq (q := decide ((ms.length : Int) < (rAt (mAt ms k).t.slots j).th)) rfl rfl rfl rfl ?_
          exact Xa ⟨rfl, hi324⟩
         refine Xj rfl (fun w326 hi327 => ?_) ?_
         ·
          have hb328 := low0 hb216 hi327
          refine Xc (v := .bool (decide ((ms.length : Int) < (rAt (mAt ms k).t.slots j).th))) rfl rfl ?_
          exact Xa ⟨rfl, hi327⟩
         refine Xj rfl (fun w329 hi330 => ?_) ?_
         ·
          have hb331 := low0 hb216 hi330
          refine Xe rfl rfl rfl h226 ?_
          refine Xd (o' := 0) Yp rfl rfl rfl ?_
          exact Xa ⟨rfl, hi330⟩
         refine Xj rfl (fun w332 hi333 => ?_) ?_
         ·
          have hb334 := low0 hb216 hi333
          refine Xe rfl rfl rfl h226 ?_
          have k335 := (hS215.blk.grown0 hi333)
          refine Xi (v := .int .i64 ((rAt (mAt ms k).t.slots j).th)) X3 rfl (k335.cell rfl) rfl ?_
          exact Xa ⟨rfl, hi333⟩
         refine Xj rfl (fun w336 hi337 => ?_) ?_
         ·
          have hb338 := low0 hb216 hi337
          refine Xe rfl rfl rfl h226 ?_
          refine Zq (q := decide (0 < (rAt (mAt ms k).t.slots j).th)) rfl rfl rfl rfl ?_
          exact Xa ⟨rfl, hi337⟩
         refine Xj rfl (fun w339 hi340 => ?_) ?_
         ·
          have hb341 := low0 hb216 hi340
          refine Xe rfl rfl rfl h226 ?_
          refine Xc (v := .bool (decide (0 < (rAt (mAt ms k).t.slots j).th))) rfl rfl ?_
          exact Xa ⟨rfl, hi340⟩
         refine Xj rfl (fun w342 hi343 => ?_) ?_
         ·
          have hb344 := low0 hb216 hi343
          refine Xe rfl rfl rfl h290 ?_
          refine Xd (o' := 1) Ql rfl rfl rfl ?_
          exact Xa ⟨rfl, hi343⟩
         refine Xj rfl (fun w345 hi346 => ?_) ?_
         ·
          have hb347 := low0 hb216 hi346
          refine Xe rfl rfl rfl h290 ?_
          have k348 := (hS215.blk.grown0 hi346)
          refine Xi (v := .int .i64 ((rAt (mAt ms k).t.slots j).ve)) X3 rfl (k348.cell rfl) rfl ?_
          exact Xa ⟨rfl, hi346⟩
         refine Xj rfl (fun w349 hi350 => ?_) ?_
         ·
          have hb351 := low0 hb216 hi350
          refine Xe rfl rfl rfl h290 ?_
          refine Xc (v := .slice a ms.length c) e189 rfl ?_
          exact Xa ⟨rfl, hi350⟩
         refine Xj rfl (fun w352 hi353 => ?_) ?_
         ·
          have hb354 := low0 hb216 hi353
          refine Xe rfl rfl rfl h290 ?_
          refine Xd (o' := 0) Yp rfl rfl rfl ?_
          exact Xa ⟨rfl, hi353⟩
         refine Xj rfl (fun w355 hi356 => ?_) ?_
         ·
          have hb357 := low0 hb216 hi356
          refine Xe rfl rfl rfl h290 ?_
          have k358 := (hS215.blk.grown0 hi356)
          refine Xi (v := .int .i64 ((rAt (mAt ms k).t.slots j).th)) X3 rfl (k358.cell rfl) rfl ?_
          exact Xa ⟨rfl, hi356⟩
         refine Xj rfl (fun w359 hi360 => ?_) ?_
         ·
          have hb361 := low0 hb216 hi360
          refine Xe rfl rfl rfl h290 ?_
          refine Y3 (c := ((rAt (mAt ms k).t.slots j).th) - 1) rfl rfl (by omega) (by omega) (by omega) rfl ?_
          exact Xa ⟨rfl, hi360⟩
         refine Xj rfl (fun w362 hi363 => ?_) ?_
         ·
          have hb364 := low0 hb216 hi363
          refine Xe rfl rfl rfl h290 ?_
          refine Yd Zl rfl rfl ha306 ho307 (by omega) (by omega) rfl ?_
          exact Xa ⟨rfl, hi363⟩
         refine Xj rfl (fun w365 hi366 => ?_) ?_
         ·
          have hb367 := low0 hb216 hi366
          refine Xe rfl rfl rfl h290 ?_
          refine Xd (o' := o305 + 3) Z6 rfl rfl rfl ?_
          exact Xa ⟨rfl, hi366⟩
         refine Xj rfl (fun w368 hi369 => ?_) ?_
         ·
          have hb370 := low0 hb216 hi369
          refine Xe rfl rfl rfl h290 ?_
          refine Xi (v := .int .i64 ((mAt ms ((((rAt (mAt ms k).t.slots j).th) - 1).toNat)).t.ve)) X3 rfl ((Yo hr308 hi369) 3 _ rfl) rfl ?_
          exact Xa ⟨rfl, hi369⟩
         exact Zj
        ·
         intro w371 hi372
         have hb373 := low0 hb216 hi372
         refine Xe rfl rfl rfl h290 ?_
         refine Zq (q := decide ((mAt ms ((((rAt (mAt ms k).t.slots j).th) - 1).toNat)).t.ve < (rAt (mAt ms k).t.slots j).ve)) rfl rfl rfl rfl ?_
         refine Xe rfl rfl rfl h226 ?_
         refine Xr (v := .bool (decide ((mAt ms ((((rAt (mAt ms k).t.slots j).th) - 1).toNat)).t.ve < (rAt (mAt ms k).t.slots j).ve))) rfl h290 rfl rfl ?_
         refine Xl (v := .bool (decide ((mAt ms ((((rAt (mAt ms k).t.slots j).th) - 1).toNat)).t.ve < (rAt (mAt ms k).t.slots j).ve))) rfl h226 rfl rfl ?_
         exact Xa (Xv ⟨⟨e189, e190, e188, (congrArg Value.bool (by first | (simp only [h107, h180, h181, h182, h183, h200, h226, h290, b0, b1, b2, b3, b4, b5, b6, b7, b8, b9]; done) | simp [h107, h180, h181, h182, h183, h200, h226, h290]))⟩, hi372⟩)
       ·
        have h374 := of_decide_eq_false h290
        refine Ze (m := 19) (vals := [(67, .pointer (some ⟨B210, 0, none⟩)), (68, .int .i64 ((rAt (mAt ms k).t.slots j).th)), (69, .slice a ms.length c), (70, .int .i64 (ms.length : Int)), (71, .bool (decide ((ms.length : Int) < (rAt (mAt ms k).t.slots j).th))), (72, .bool (decide ((ms.length : Int) < (rAt (mAt ms k).t.slots j).th))), (73, .pointer (some ⟨B210, 0, none⟩)), (74, .int .i64 ((rAt (mAt ms k).t.slots j).th)), (75, .bool (decide (0 < (rAt (mAt ms k).t.slots j).th))), (76, .bool (decide (0 < (rAt (mAt ms k).t.slots j).th))), (77, undef), (78, undef), (79, undef), (80, undef), (81, undef), (82, undef), (83, undef), (84, undef), (85, undef)]) (fun w' => w214.grownBy w' none) Zi (by kernel_rfl) (Yl _) ?_ ?_
        ·
         refine Xj rfl (fun w375 hi376 => ?_) ?_
         ·
          have hb377 := low0 hb216 hi376
          refine Xd (o' := 0) Yp rfl rfl rfl ?_
          exact Xa ⟨rfl, hi376⟩
         refine Xj rfl (fun w378 hi379 => ?_) ?_
         ·
          have hb380 := low0 hb216 hi379
          have k381 := (hS215.blk.grown0 hi379)
          refine Xi (v := .int .i64 ((rAt (mAt ms k).t.slots j).th)) X3 rfl (k381.cell rfl) rfl ?_
          exact Xa ⟨rfl, hi379⟩
         refine Xj rfl (fun w382 hi383 => ?_) ?_
         ·
          have hb384 := low0 hb216 hi383
          refine Xc (v := .slice a ms.length c) e189 rfl ?_
          exact Xa ⟨rfl, hi383⟩
         refine Xj rfl (fun w385 hi386 => ?_) ?_
         ·
          have hb387 := low0 hb216 hi386
          refine Ym (by kernel_rfl) rfl rfl ?_
          exact Xa ⟨rfl, hi386⟩
         refine Xj rfl (fun w388 hi389 => ?_) ?_
         ·
          have hb390 := low0 hb216 hi389
          refine Zq (q := decide ((ms.length : Int) < (rAt (mAt ms k).t.slots j).th)) rfl rfl rfl rfl ?_
          exact Xa ⟨rfl, hi389⟩
         refine Xj rfl (fun w391 hi392 => ?_) ?_
         ·
          have hb393 := low0 hb216 hi392
          refine Xc (v := .bool (decide ((ms.length : Int) < (rAt (mAt ms k).t.slots j).th))) rfl rfl ?_
          exact Xa ⟨rfl, hi392⟩
         refine Xj rfl (fun w394 hi395 => ?_) ?_
         ·
          have hb396 := low0 hb216 hi395
          refine Xe rfl rfl rfl h226 ?_
          refine Xd (o' := 0) Yp rfl rfl rfl ?_
          exact Xa ⟨rfl, hi395⟩
         refine Xj rfl (fun w397 hi398 => ?_) ?_
         ·
          have hb399 := low0 hb216 hi398
          refine Xe rfl rfl rfl h226 ?_
          have k400 := (hS215.blk.grown0 hi398)
          refine Xi (v := .int .i64 ((rAt (mAt ms k).t.slots j).th)) X3 rfl (k400.cell rfl) rfl ?_
          exact Xa ⟨rfl, hi398⟩
         refine Xj rfl (fun w401 hi402 => ?_) ?_
         ·
          have hb403 := low0 hb216 hi402
          refine Xe rfl rfl rfl h226 ?_
          refine Zq (q := decide (0 < (rAt (mAt ms k).t.slots j).th)) rfl rfl rfl rfl ?_
          exact Xa ⟨rfl, hi402⟩
         refine Xj rfl (fun w404 hi405 => ?_) ?_
         ·
          have hb406 := low0 hb216 hi405
          refine Xe rfl rfl rfl h226 ?_
          refine Xc (v := .bool (decide (0 < (rAt (mAt ms k).t.slots j).th))) rfl rfl ?_
          exact Xa ⟨rfl, hi405⟩
         refine Xj rfl (fun w407 hi408 => ?_) ?_
         ·
          have hb409 := low0 hb216 hi408
          refine Xk rfl rfl rfl h290 rfl ?_
          exact Xa ⟨rfl, hi408⟩
         refine Xj rfl (fun w410 hi411 => ?_) ?_
         ·
          have hb412 := low0 hb216 hi411
          refine Xk rfl rfl rfl h290 rfl ?_
          exact Xa ⟨rfl, hi411⟩
         refine Xj rfl (fun w413 hi414 => ?_) ?_
         ·
          have hb415 := low0 hb216 hi414
          refine Xk rfl rfl rfl h290 rfl ?_
          exact Xa ⟨rfl, hi414⟩
         refine Xj rfl (fun w416 hi417 => ?_) ?_
         ·
          have hb418 := low0 hb216 hi417
          refine Xk rfl rfl rfl h290 rfl ?_
          exact Xa ⟨rfl, hi417⟩
         refine Xj rfl (fun w419 hi420 => ?_) ?_
         ·
          have hb421 := low0 hb216 hi420
          refine Xk rfl rfl rfl h290 rfl ?_
          exact Xa ⟨rfl, hi420⟩
         refine Xj rfl (fun w422 hi423 => ?_) ?_
         ·
          have hb424 := low0 hb216 hi423
          refine Xk rfl rfl rfl h290 rfl ?_
          exact Xa ⟨rfl, hi423⟩
         refine Xj rfl (fun w425 hi426 => ?_) ?_
         ·
          have hb427 := low0 hb216 hi426
          refine Xk rfl rfl rfl h290 rfl ?_
          exact Xa ⟨rfl, hi426⟩
         refine Xj rfl (fun w428 hi429 => ?_) ?_
         ·
          have hb430 := low0 hb216 hi429
          refine Xk rfl rfl rfl h290 rfl ?_
          exact Xa ⟨rfl, hi429⟩
         refine Xj rfl (fun w431 hi432 => ?_) ?_
         ·
          have hb433 := low0 hb216 hi432
          refine Xk rfl rfl rfl h290 rfl ?_
          exact Xa ⟨rfl, hi432⟩
         exact Zj
        ·
         intro w434 hi435
         have hb436 := low0 hb216 hi435
         refine Xk rfl rfl rfl h290 rfl ?_
         refine Xe rfl rfl rfl h226 ?_
         refine Xl (v := .bool false) rfl h290 rfl rfl ?_
         refine Xl (v := .bool false) rfl h226 rfl rfl ?_
         exact Xa (Xv ⟨⟨e189, e190, e188, (congrArg Value.bool (by first | (simp only [h107, h180, h181, h182, h183, h200, h226, h290, b0, b1, b2, b3, b4, b5, b6, b7, b8, b9]; done) | simp [h107, h180, h181, h182, h183, h200, h226, h290]))⟩, hi435⟩)
     ·
      rintro f437 w438 ⟨⟨e439, e440, e441, e442⟩, hg443⟩
      have hb444 := low0 hb216 hg443
      refine Xw e442 (fun h445 => ?_) (fun h445 => ?_)
      ·
       refine Xb ?_
       refine Xh (v := .bool false) rfl rfl ?_
       refine Xa ?_
       refine Xs ?_
       refine Y6 ?_
       refine Yi ?_
       refine Yi ?_
       refine Y6 ?_
       refine Y6 ?_
       refine Yi ?_
       refine Yi ?_
       refine Y6 ?_
       refine Yi ?_
       refine ⟨.bool false, Yq rfl rfl, ?_, hb444⟩
       exact congrArg Value.bool (Pv (by omega) (Sb (Qg (by omega)) (Zn ((Ws (Uv ((Kf rfl).2 h180).1 (Qg (by omega))).1).symm.trans h445))))
      ·
       have h446 := Qx h445
       have h447 := of_decide_eq_false h446
       have h448 := Qy h445
       refine Xy ?_
       refine Yy ?_
       refine Xv ?_
       refine X1 ?_
       refine Xc (v := .int .i64 (j : Int)) e441 rfl ?_
       refine Yx (c := (j : Int) + 1) rfl rfl (by omega) (by omega) (by omega) rfl ?_
       refine Xh (v := .int .i64 ((j : Int) + 1)) rfl rfl ?_
       refine Xa ?_
       refine Xv ?_
       exact ⟨(mAt ms k).t.slots.length - (j + 1), by omega, (j + 1), rfl, (by omega), (Qj hrs (Qg (by omega)) (Zh ((Ws (Uv ((Kf rfl).2 h180).1 (Qg (by omega))).1).symm.trans h445))), rfl, e439, e440, hb444⟩
    ·
     have h449 := of_decide_eq_false h200
     refine Y5 ?_
     refine Y2 ?_
     refine Y2 ?_
     refine Z1 ?_
     refine Yy ?_
     refine Xv ?_
     refine X1 ?_
     refine Xc (v := .int .i64 (k : Int)) e190 rfl ?_
     refine Yx (c := (k : Int) + 1) rfl rfl (by omega) (by omega) (by omega) rfl ?_
     refine Xh (v := .int .i64 ((k : Int) + 1)) rfl rfl ?_
     refine Xa ?_
     refine Xv ?_
     exact ⟨ms.length - (k + 1), by omega, (k + 1), rfl, (by omega), (Qj hall (Km (by omega)) (Ru ((Kf rfl).2 h180).1 ((Kf rfl).2 h180).2 hrs (by omega))), rfl, e189, hb186⟩
 ·
  have h450 := of_decide_eq_false h107
  refine Y5 ?_
  refine Y2 ?_
  refine Y2 ?_
  refine Z1 ?_
  refine Xv ?_
  refine Xb ?_
  refine Xc (v := .slice a ms.length c) e106 rfl ?_
  refine Ym (by kernel_rfl) rfl rfl ?_
  refine Xn (vs := [.int .i64 (ms.length : Int), .int .i64 1, .int .i64 8]) Q4 (Xg rfl (Xg rfl (Xg rfl Xm))) rfl (Qk (ms.length : Int) 1 8 _) ?_
  rintro _ w451 ⟨rfl, hg452⟩
  have hb453 := low0 hb103 hg452
  refine Xh (v := .bool (inR (ms.length : Int) 1 8)) rfl rfl ?_
  refine Xa ?_
  refine Xs ?_
  refine ⟨.bool (inR (ms.length : Int) 1 8), Yq rfl rfl, ?_, hb453⟩
  exact congrArg Value.bool (Sr hall (by omega))
end Go.Proofs.YtfoplmgoiblkgaaDoor
end
section
namespace Go.Dw
set_option linter.unusedSimpArgs false
set_option linter.unusedVariables false
open Go.RowKit Go.Shelf
structure Wd (F : Fence) : Prop where
  fn : ∀ k, F.fn k
  calls : ∀ {n : Nat} {P : Program} {k : FuncId} {args : Array Value} {w : World} {R : Ending → World → Prop}, Calls P k args w R → CallsIn F n P k args w R
  rows : ∀ {n : Nat} {P : Program} {row : String} {args : Array Value} {w : World} {R : Value → World → Prop}, Rows P row args w R → RowsIn F n P row args w R
  depth : F.depth = none
theorem Q2 : Wd Fence.wide :=
  ⟨fun _ => trivial, fun h => callsIn_wide.2 h, fun h => fun c cs _ => let ⟨v, w', r, s⟩ := h c cs; ⟨v, w', r, stepsIn_wide.2 s⟩, rfl⟩
theorem Kx (l : Nat) : Wd (Fence.wide.inRound l) :=
  ⟨fun _ => trivial, fun h => CallsIn.inRound l (callsIn_wide.2 h), fun h => fun c cs _ => let ⟨v, w', r, s⟩ := h c cs; ⟨v, w', r, stepsIn_wide.2 s⟩, rfl⟩
def noDefer : List Oper → Bool
  | [] => true
  | o :: l => (match o.op with | .defer _ => false | _ => true) && noDefer l
theorem J0 {o : Oper} {l : List Oper} (h : noDefer (o :: l) = true) : (∀ c, o.op ≠ .defer c) ∧ noDefer l = true := by
  unfold noDefer at h
  rw [Bool.and_eq_true] at h
  refine ⟨fun c hc => ?_, h.2⟩
  rw [hc] at h
  exact absurd h.1 (by simp)
theorem U1 : ∀ {l : List Oper}, noDefer l = true → ∀ (i : Nat) (o : Oper), l[i]? = some o → ∀ c, o.op ≠ .defer c
  | [], _, i, o, hi => by simp at hi
  | p :: l, h, i, o, hi => by
    obtain ⟨h1, h2⟩ := J0 h
    cases i with
    | zero => simp at hi; subst hi; exact h1
    | succ i => exact U1 h2 i o (by simpa using hi)
section
variable {F : Fence} {m : Nat} {P : Program}
theorem Mw (hF : Wd F) {o : Oper} {a : Act} {w : World} {next next' : Act → World → Prop} {Q Q' : Exit → Act → World → Prop} (hd : ∀ c, o.op ≠ .defer c) (hQ : ∀ e a w, e ≠ .normal → ¬ Q e a w) (hn : ∀ a w, next a w → next' a w) (h : o.wp P a w next Q) : o.wpIn F m P a w next' Q' := by
  refine ⟨fun f _ => hF.fn f, ?_⟩
  rw [Oper.semAt_eq _ _ _ hd]
  unfold Oper.wp at h
  generalize (execOp a.eval o).run P w = r at h ⊢
  cases r with
  | ok x w' =>
    cases x <;> simp only [Oper.upon, Oper.uponIn] at h ⊢
    case value v => exact hn _ _ h
    case skip => exact hn _ _ h
    case defer dd => exact hn _ _ h
    case enter k args =>
      refine ⟨(fun e => by (rw [hF.depth] at e; cases e)), hF.calls (h.mono fun e w'' he => ?_)⟩
      cases e with
      | returned v => exact hn _ _ he
      | panicked c => exact absurd he (hQ _ _ _ (by simp))
      | outgrown => obtain ⟨_, _, h0⟩ := he; exact absurd h0 (hQ _ _ _ (by simp))
    case row rw args => exact ⟨(fun e => by (rw [hF.depth] at e; cases e)), hF.rows (h.mono fun v w'' he => hn _ _ he)⟩
  | halt x w' => cases x <;> simp only [Oper.upon, Oper.uponIn] at h ⊢; exact absurd h (hQ _ _ _ (by simp))
def onlyN (K : Act → World → Prop) : Exit → Act → World → Prop
  | .normal, a, w => K a w
  | _, _, _ => False
theorem Ha {K : Act → World → Prop} : ∀ e a w, e ≠ .normal → ¬ onlyN K e a w := fun e a w he h => by cases e <;> first | exact he rfl | exact h
theorem Wx (hF : Wd F) {ops : Array Oper} {Q : Exit → Act → World → Prop} {K : Act → World → Prop} (hK : ∀ a w, K a w → Q .normal a w) : ∀ (l : List Oper) (a : Act) (w : World), noDefer l = true → wpList P ops (onlyN K) l a w → wpListIn F m P ops Q l a w
  | [], a, w, _, h => hK _ _ h
  | o :: l, a, w, hd, h => by
    obtain ⟨h1, h2⟩ := J0 hd
    unfold wpList at h
    unfold wpListIn
    split
    · rename_i hw
      rw [if_pos hw] at h
      rcases h with h | ⟨_, _, _, h0⟩
      · exact Mw hF h1 Ha (fun a w ha => Wx hF hK l a w h2 ha) h
      · exact h0.elim
    · rename_i hw
      rw [if_neg hw] at h
      exact ⟨fun f _ => hF.fn f, Wx hF hK l _ _ h2 h⟩
theorem Ly (hF : Wd F) {md : Region.Mode} {ops : Array Oper} {Q : Exit → Act → World → Prop} {K : Act → World → Prop} (hd : noDefer ops.toList = true) (hK : ∀ a w, K a w → Q .normal a w) : ∀ (fuel : Nat) (listed : Array Bool) (a : Act) (w : World),
    wpAny P md ops (onlyN K) fuel listed a w → wpAnyIn F m P md ops Q fuel listed a w
  | 0, _, _, _, h => ⟨h.1, hK _ _ h.2⟩
  | fuel + 1, listed, a, w, h => by
    refine ⟨fun hr => hK _ _ (h.1 hr), fun i hi => ?_⟩
    have h1 := h.2 i hi
    unfold wpOp at h1
    unfold wpOpIn
    cases ho : ops[i]? with
    | none => rw [ho] at h1; exact Ly hF hd hK fuel _ _ _ h1
    | some o =>
      rw [ho] at h1
      simp only at h1 ⊢
      have hdo := U1 hd i o (by simpa using ho)
      split
      · rename_i hw
        rw [if_pos hw] at h1
        rcases h1 with h1 | ⟨_, _, _, h0⟩
        · exact Mw hF hdo Ha (fun a w ha => Ly hF hd hK fuel _ a w ha) h1
        · exact h0.elim
      · rename_i hw
        rw [if_neg hw] at h1
        exact ⟨fun f _ => hF.fn f, Ly hF hd hK fuel _ _ _ h1⟩
end
def Wpg (F : Fence) (m : Nat) (P : Program) (n : Nat) (Q : Exit → Fr → World → Prop) (c : Code) (f : Fr) (w : World) : Prop :=
  ∀ a, FEq n a f → c.wpIn F m P (fun e a' w' => ∃ f', FEq n a' f' ∧ Q e f' w') a w
def WpOG (F : Fence) (m : Nat) (P : Program) (n : Nat) (ops : Array Oper) (K : Fr → World → Prop) (l : List Oper) (f : Fr) (w : World) : Prop :=
  ∀ a, FEq n a f → ∀ Q : Exit → Act → World → Prop, (∀ a' w' f', FEq n a' f' → K f' w' → Q .normal a' w') → wpListIn F m P ops Q l a w
section
variable {F : Fence} {m : Nat} {P : Program} {n : Nat} {Q : Exit → Fr → World → Prop} {f : Fr} {w : World}
theorem Wpg.mono {Q' : Exit → Fr → World → Prop} {c : Code} (h : Wpg F m P n Q c f w) (hq : ∀ e f w, Q e f w → Q' e f w) : Wpg F m P n Q' c f w :=
  fun a ha => wpIn_mono (h a ha) fun _ _ _ ⟨f', hf, hQ⟩ => ⟨f', hf, hq _ _ _ hQ⟩
theorem K2 (h : Q .normal f w) : Wpg F m P n Q .skip f w := fun _ ha => wpIn_skip ⟨f, ha, h⟩
theorem Ln (h : Q .ret f w) : Wpg F m P n Q .ret f w := fun _ ha => wpIn_ret ⟨f, ha, h⟩
theorem Us {id : Nat} (h : Q (.exit id) f w) : Wpg F m P n Q (.exit id) f w := fun _ ha => wpIn_exit ⟨f, ha, h⟩
theorem J8 {x y : Code} (h : Wpg F m P n (thn (Wpg F m P n Q y) Q) x f w) : Wpg F m P n Q (.seq x y) f w := fun a ha =>
  wpIn_seq (wpIn_mono (h a ha) fun e a' w' ⟨f', hf, hQ⟩ => by
    cases e with
    | normal => exact hQ a' hf
    | exit i => exact ⟨f', hf, hQ⟩
    | goto l => exact ⟨f', hf, hQ⟩
    | ret => exact ⟨f', hf, hQ⟩
    | panic c => exact ⟨f', hf, hQ⟩
    | outgrown => exact ⟨f', hf, hQ⟩)
theorem Gn {x y : Code} (M : Fr → World → Prop) (h : Wpg F m P n (thn M Q) x f w) (hM : ∀ f w, M f w → Wpg F m P n Q y f w) : Wpg F m P n Q (.seq x y) f w :=
  J8 (h.mono fun e f w hq => by cases e <;> first | exact hM _ _ hq | exact hq)
theorem Ke {id : Nat} {c : Code} (h : Wpg F m P n (blk id Q) c f w) : Wpg F m P n Q (.block id c) f w := fun a ha =>
  wpIn_block (wpIn_mono (h a ha) fun e a' w' ⟨f', hf, hQ⟩ => by
    cases e with
    | exit i =>
      simp only [blk] at hQ
      simp only [Exit.inBlock]
      by_cases hi : i = id
      · rw [if_pos hi] at hQ ⊢; exact ⟨f', hf, hQ⟩
      · rw [if_neg hi] at hQ ⊢; exact ⟨f', hf, hQ⟩
    | normal => exact ⟨f', hf, hQ⟩
    | goto l => exact ⟨f', hf, hQ⟩
    | ret => exact ⟨f', hf, hQ⟩
    | panic c => exact ⟨f', hf, hQ⟩
    | outgrown => exact ⟨f', hf, hQ⟩)
theorem Kg {c : Operand} {x y : Code} {b : Bool} (hc : ev f c = .bool b) (ht : b = true → Wpg F m P n Q x f w) (hf : b = false → Wpg F m P n Q y f w) : Wpg F m P n Q (.cond c x y) f w := fun a ha =>
  wpIn_cond_split (t := b) (by rw [ha.eval]; exact hc) (fun h => ht h a ha) (fun h => hf h a ha)
theorem L5 {c : Operand} {x y : Code} {b : Bool} (hc : ev f c = .bool b) (hb : b = true) (h : Wpg F m P n Q x f w) : Wpg F m P n Q (.cond c x y) f w :=
  Kg hc (fun _ => h) (fun e => by rw [hb] at e; cases e)
theorem L9 {c : Operand} {x y : Code} {b : Bool} (hc : ev f c = .bool b) (hb : b = false) (h : Wpg F m P n Q y f w) : Wpg F m P n Q (.cond c x y) f w :=
  Kg hc (fun e => by rw [hb] at e; cases e) (fun _ => h)
theorem Wl {c : Code} (I : Nat → Fr → World → Prop) (m₀ : Nat) (h₀ : I m₀ f w)
    (round : ∀ k f w, I k f w → Wpg F m P n (thn (fun f' w' => ∃ k', k' < k ∧ I k' f' w') Q) c f w) : Wpg F m P n Q (.loop c) f w := by
  intro a ha
  refine wpIn_loop_rounds (m₀ + 1) ?_
  have key : ∀ N k f a w, k ≤ N → I k f w → FEq n a f → Code.roundsIn F m P c (fun e a' w' => ∃ f', FEq n a' f' ∧ Q e f' w') (N + 1) a w := by
    intro N
    induction N with
    | zero =>
      intro k f a w hk hI ha
      refine wpIn_mono (round k f w hI a ha) fun e a' w' ⟨f', hf, hQ⟩ => ?_
      cases e with
      | normal => obtain ⟨k', hlt, _⟩ := hQ; omega
      | exit i => exact ⟨f', hf, hQ⟩
      | goto l => exact ⟨f', hf, hQ⟩
      | ret => exact ⟨f', hf, hQ⟩
      | panic c => exact ⟨f', hf, hQ⟩
      | outgrown => exact ⟨f', hf, hQ⟩
    | succ N ih =>
      intro k f a w hk hI ha
      refine wpIn_mono (round k f w hI a ha) fun e a' w' ⟨f', hf, hQ⟩ => ?_
      cases e with
      | normal => obtain ⟨k', hlt, hI'⟩ := hQ; exact ih k' f' a' w' (by omega) hI' hf
      | exit i => exact ⟨f', hf, hQ⟩
      | goto l => exact ⟨f', hf, hQ⟩
      | ret => exact ⟨f', hf, hQ⟩
      | panic c => exact ⟨f', hf, hQ⟩
      | outgrown => exact ⟨f', hf, hQ⟩
  exact key m₀ m₀ f a w (Nat.le_refl _) h₀ ha
end
section
variable {F : Fence} {m : Nat} {P : Program} {n : Nat} {ops : Array Oper} {K : Fr → World → Prop} {l : List Oper} {f : Fr} {w w' : World} {o : Oper} {v : Value} {Q : Exit → Fr → World → Prop}
theorem WpOG.mono {K' : Fr → World → Prop} (h : WpOG F m P n ops K l f w) (hk : ∀ f w, K f w → K' f w) : WpOG F m P n ops K' l f w :=
  fun a ha Q hQ => h a ha Q fun a' w' f' hf hK => hQ a' w' f' hf (hk _ _ hK)
theorem Gi (hF : Wd F) (hd : noDefer l = true) (h : WpO P n ops K l f w) : WpOG F m P n ops K l f w := fun a ha Q hQ =>
  Wx hF (K := fun a' w' => ∃ f', FEq n a' f' ∧ K f' w') (fun a' w' ⟨f', hf, hK⟩ => hQ a' w' f' hf hK) l a w hd (h a ha _ fun a' w' f' hf hK => ⟨f', hf, hK⟩)
theorem Vy {id : Nat} (h : WpOG F m P n l.toArray (Q .normal) l f w) : Wpg F m P n Q (.region id l.toArray false) f w := fun a ha =>
  wpIn_region_lit (h a ha _ fun _ _ f' hf hK => ⟨f', hf, hK⟩)
theorem Ki {id : Nat} (hF : Wd F) (h : WpO P n l.toArray (Q .normal) l f w) (hd : noDefer l = true := by kernel_rfl) : Wpg F m P n Q (.region id l.toArray false) f w := Vy (Gi hF hd h)
theorem Z8 {id : Nat} {y : Code} (hF : Wd F) (h : WpO P n l.toArray (Wpg F m P n Q y) l f w) (hd : noDefer l = true := by kernel_rfl) : Wpg F m P n Q (.seq (.region id l.toArray false) y) f w :=
  J8 (Ki hF h hd)
theorem N8 (hF : Wd F) {l' : List Oper} (hd : noDefer l = true) (h : WpO P n ops (WpOG F m P n ops K l') l f w) : WpOG F m P n ops K (l ++ l') f w := by
  intro a ha Q hQ
  have h1 : wpListIn F m P ops (onlyN (wpListIn F m P ops Q l')) l a w := Wx hF (K := wpListIn F m P ops Q l') (fun a' w' h => h) l a w hd (h a ha _ fun a' w' f' hf hK => hK a' hf Q hQ)
  clear h ha
  induction l generalizing a w with
  | nil => exact h1
  | cons o l ih =>
    simp only [List.cons_append, wpListIn] at h1 ⊢
    split
    · rename_i hw
      rw [if_pos hw] at h1
      refine ⟨h1.1, ?_⟩
      have h2 := h1.2
      have hl := (J0 hd).2
      generalize (o.semAt F.round a.eval).run P w = r at h2 ⊢
      cases r with
      | ok x w' =>
        cases x <;> simp only [Oper.uponIn] at h2 ⊢
        case value v => exact ih hl _ h2
        case skip => exact ih hl _ h2
        case defer dd => exact ih hl _ h2
        case enter k args =>
          refine ⟨h2.1, h2.2.mono fun e w'' he => ?_⟩
          cases e with
          | returned v => exact ih hl _ he
          | panicked c => exact he.elim
          | outgrown => obtain ⟨_, _, h0⟩ := he; exact h0.elim
        case row rw args => exact ⟨h2.1, h2.2.mono fun v w'' he => ih hl _ he⟩
        case round l f tmps assign body =>
          refine ⟨h2.1, h2.2.mono fun e w'' he => ?_⟩
          cases e with
          | returned v => exact ih hl _ he
          | panicked c => exact he.elim
          | outgrown => obtain ⟨_, _, h0⟩ := he; exact h0.elim
      | halt x w' => cases x <;> simp only [Oper.uponIn] at h2 ⊢; exact h2.elim
    · rename_i hw
      rw [if_neg hw] at h1
      exact ⟨h1.1, ih (J0 hd).2 _ h1.2⟩
theorem H7 (hF : Wd F) (hro : F.round = none) {d : Nat} {x : Operand} {args : Array Operand} {ats : Array TypeId} {ty : TypeId} {pos : String} {aft : Array Edge} {lr : Nat} {vs : List Value} {R : Ending → World → Prop}
    (hx : ev f x = .func (.yield lr) #[] #[]) (ha : args.toList.map (ev f) = vs) (hd : Nat.blt d n = true) (hy : YieldAt F (m - 1) P lr vs.toArray w R)
    (h : ∀ e w', R e w' → ∃ b : Bool, e = .returned (.bool b) ∧ WpOG F m P n ops K l (up f d (.bool b)) w') :
    WpOG F m P n ops K (⟨some d, .call ⟨.value x, args, ats⟩, ty, pos, aft, none⟩ :: l) f w := fun a hfa Q hQ => by
  obtain ⟨fn, tmps, assign, body, hr, hR⟩ := hy
  unfold wpListIn
  rw [if_pos (by simp [Region.wanted])]
  refine ⟨fun k _ => hF.fn k, ?_⟩
  have he : ((⟨some d, .call ⟨.value x, args, ats⟩, ty, pos, aft, none⟩ : Oper).semAt F.round a.eval).run P w = .ok (.round lr fn tmps assign body) w := by
    rw [hro, Oper.semAt_none, hfa.eval]
    have e1 : args.map (ev f) = vs.toArray := by rw [← ha]; apply Array.ext'; simp
    simp [execOp, resolve, Deferred.ofValue, invoke, hx, e1, hr]
  rw [he]
  refine ⟨(fun e => by (rw [hF.depth] at e; cases e)), hR.mono fun e w' hw => ?_⟩
  obtain ⟨b, rfl, hk⟩ := h e w' hw
  exact hk _ (hfa.put hd _) Q hQ
end
theorem Uw {P : Program} {k : FuncId} {fn : Func} {c : Code} {args : Array Value} {w : World} {R : Value → World → Prop} {n m : Nat}
    (hf : P.funcs[k]? = some fn) (hb : fn.body = some c) (hn : fn.ntmps = n) (hs : Nat.ble args.size n = true)
    (h : Wpg Fence.wide m P n (endQ P fn R) c (f0 args) w) : CallsIn Fence.wide m P k args w fun e w' => ∃ v, e = .returned v ∧ R v w' := by
  have hs' : args.size ≤ n := by simpa [Nat.ble_eq] using hs
  refine callsIn_of_wp hf hb trivial ?_
  refine wpIn_mono (h _ ⟨rfl, by simp [hn]; omega, fun i => ?_⟩) fun e a w ⟨f', hf', hQ⟩ => ?_
  · simp only [f0, Ua, Array.getD_eq_getD_getElem?, Array.getElem?_toList]
    by_cases hi : i < args.size
    · rw [Array.getElem?_append_left hi]
    · rw [Array.getElem?_append_right (by omega), Array.getElem?_eq_none (by omega : args.size ≤ i)]
      by_cases h2 : i - args.size < fn.ntmps - args.size
      · simp [h2]
      · rw [Array.getElem?_eq_none (by simp; omega)]
  · cases e with
    | normal => obtain ⟨v, hv, hR⟩ := hQ; exact ⟨hf'.defers, v, hv _ hf'.at_, v, rfl, hR⟩
    | ret => obtain ⟨v, hv, hR⟩ := hQ; exact ⟨hf'.defers, v, hv _ hf'.at_, v, rfl, hR⟩
    | exit i => exact hQ.elim
    | goto l => exact hQ.elim
    | panic c => exact hQ.elim
    | outgrown => exact hQ.elim
section
variable {P : Program} {n : Nat} {ops : List Oper} {f : Fr}
theorem G5 {F : Fence} {m0 : Nat} {id : Nat} {w : World} {Q : Exit → Fr → World → Prop} (hF : Wd F) (m : Nat) (vals : List (Nat × Value)) (Inv : World → Prop) (hmx : P.follows .mixedOrders = true) (hck : drawOk n m ops (befores ops) = true) (h0 : Inv w.drew)
    (hpre : YlL P n ops.toArray Inv (ups f vals) (ops.take m) vals) (htail : ∀ w', Inv w' → WpO P n ops.toArray (Q .normal) (ops.drop m) (ups f vals) w') (hdf : noDefer ops = true := by kernel_rfl) : Wpg F m0 P n Q (.region id ops.toArray true) f w := fun a ha => by
  obtain ⟨hm, _, hone⟩ := Ky hck
  obtain ⟨hlen, hget⟩ := Uc _ _ hpre
  obtain ⟨aF, haF⟩ := W4 vals a f ha fun p hp => by
    obtain ⟨j, hj⟩ := List.getElem?_of_mem hp
    have hjm : j < m := by
      have := (List.getElem?_eq_some_iff.1 hj).1
      rw [← hlen] at this
      simp at this
      omega
    obtain ⟨oj, hoj⟩ : ∃ oj, ops[j]? = some oj := ⟨_, List.getElem?_eq_getElem (by omega)⟩
    obtain ⟨d, v, hv, hd, _⟩ := hget j oj (by rw [List.getElem?_take, if_pos hjm]; exact hoj)
    rw [hj] at hv
    have := Option.some.inj hv
    subst this
    have h1 := hone j oj hoj
    unfold drawOne at h1
    simp only [Bool.and_eq_true, if_pos hjm, hd] at h1
    simpa using h1.2.1.2
  refine wpIn_region_any hmx (Ly hF (K := fun a' w' => ∃ f', FEq n a' f' ∧ Q .normal f' w') (by simpa using hdf) (fun _ _ h => h) _ _ _ _ ?_)
  have hrep : ∀ j, (Array.replicate ops.toArray.size false).getD j false = false := fun j => by
    rw [Array.getD_eq_getD_getElem?]
    cases h : (Array.replicate ops.toArray.size false)[j]? with
    | none => rfl
    | some b => rw [Array.getElem?_replicate] at h; split at h <;> simp_all
  refine Ur (K := Q .normal) hck rfl haF hpre htail (fun a' w' f' hf hK => ⟨f', hf, hK⟩) _ _ a _ ha.defers ha.size (by simp) h0 (fun j _ => hrep j) (fun j hj => by rw [hrep j] at hj; cases hj) (fun t _ => ha.at_ t) (fun j o t _ hj => by rw [hrep j] at hj; cases hj) ?_
  rw [show ops.toArray.size = ops.length by simp, Vo]
  exact Nat.le_refl _
end
theorem Jm {P : Program} {f : Fr} {w : World} {t T b o : Nat} {v : Value} (ht : oneTy P T = true) (hf : f t = .pointer (some ⟨b, o, none⟩)) (hc : w.cell? ⟨b, o, none⟩ = some v) : resCell P f w t T v :=
  ⟨_, hf, by simp [loadVar, Uk ht, hc]⟩
def WpA (m : Nat) (P : Program) (n : Nat) (QA : Exit → Act → World → Prop) (c : Code) (f : Fr) (w : World) : Prop := ∀ a, FEq n a f → c.wpIn Fence.wide m P QA a w
def toQ (n : Nat) (QA : Exit → Act → World → Prop) : Exit → Fr → World → Prop := fun e f w => ∀ a, FEq n a f → QA e a w
section
variable {m : Nat} {P : Program} {n : Nat} {QA : Exit → Act → World → Prop} {f : Fr} {w : World}
theorem W8 {x y : Code} (h : Wpf P n (thn (WpA m P n QA y) (toQ n QA)) x f w) : WpA m P n QA (.seq x y) f w := fun a ha =>
  wpIn_seq (wpIn_wide.2 (wp_mono (h a ha) fun e a' w' ⟨f', hf, hQ⟩ => by
    cases e with
    | normal => exact hQ a' hf
    | exit i => exact hQ a' hf
    | goto l => exact hQ a' hf
    | ret => exact hQ a' hf
    | panic c => exact hQ a' hf
    | outgrown => exact hQ a' hf))
theorem Kt {id : Nat} {l : List Oper} {y : Code} (h : WpO P n l.toArray (WpA m P n QA y) l f w) : WpA m P n QA (.seq (.region id l.toArray false) y) f w := W8 (X1 h)
theorem Ro {x y : Code} (h : WpA m P n (Exit.then (y.wpIn Fence.wide m P QA) QA) x f w) : WpA m P n QA (.seq x y) f w := fun a ha => wpIn_seq (h a ha)
end
theorem Sd {m : Nat} {P : Program} {n : Nat} {QA : Exit → Act → World → Prop} {c : Code} {f : Fr} {w : World} (M : Fr → Prop) (h : M f) (hM : ∀ f, M f → WpA m P n QA c f w) : WpA m P n QA c f w := hM f h
section
end
theorem Tx {P : Program} {k : FuncId} {fn : Func} {c : Code} {args : Array Value} {w : World} {R : Value → World → Prop} {n m : Nat}
    (hf : P.funcs[k]? = some fn) (hb : fn.body = some c) (hn : fn.ntmps = n) (hs : Nat.ble args.size n = true)
    (h : WpA m P n (bodyPostM Fence.wide m P fn (fun e w' => ∃ v, e = .returned v ∧ R v w')) c (f0 args) w) : Calls P k args w fun e w' => ∃ v, e = .returned v ∧ R v w' := by
  have hs' : args.size ≤ n := by simpa [Nat.ble_eq] using hs
  refine callsIn_wide.1 (callsIn_of_wp_marks hf hb trivial (h _ ⟨rfl, by simp [hn]; omega, fun i => ?_⟩))
  simp only [f0, Ua, Array.getD_eq_getD_getElem?, Array.getElem?_toList]
  by_cases hi : i < args.size
  · rw [Array.getElem?_append_left hi]
  · rw [Array.getElem?_append_right (by omega), Array.getElem?_eq_none (by omega : args.size ≤ i)]
    by_cases h2 : i - args.size < fn.ntmps - args.size
    · simp [h2]
    · rw [Array.getElem?_eq_none (by simp; omega)]
theorem Tq {m n : Nat} {P : Program} {fn : Func} {R : Value → World → Prop} {f : Fr} {w : World} {v : Value} (hv : resV P fn f w v) (hR : R v w) : toQ n (bodyPostM Fence.wide m P fn (fun e w' => ∃ v, e = .returned v ∧ R v w')) .ret f w := fun a ha => by
  show LeavesInM Fence.wide m P fn a.tmps _ a.defers .returning w
  rw [ha.defers]
  exact ⟨v, hv _ ha.at_, v, rfl, hR⟩
theorem Mr {m n D : Nat} {P : Program} {fn : Func} {R : Value → World → Prop} {a : Act} {f : Fr} {w : World} {v : Value} (ha : FEq n a f) (hK : w.heap[D]? = some (.deferred (some []))) (hv : resV P fn f (w.putObj D (.deferred none)) v) (hR : R v (w.putObj D (.deferred none))) :
    bodyPostM Fence.wide m P fn (fun e w' => ∃ v, e = .returned v ∧ R v w') .ret { a with defers := { target := .collected D, args := #[] } :: a.defers } w := by
  show LeavesInM Fence.wide m P fn a.tmps _ ({ target := .collected D, args := #[] } :: a.defers) .returning w
  rw [ha.defers]
  exact ⟨by simp, .inl ⟨D, _, rfl, run_takeDeferred hK, v, hv _ ha.at_, v, rfl, hR⟩⟩
theorem Gg {F : Fence} {m : Nat} {P : Program} {id : Nat} {o : Oper} {Q : Exit → Act → World → Prop} {a : Act} {w w' : World} (hF : Wd F) (hd : ∀ c, o.op ≠ .defer c) (hg : o.guard = none) (hr : (execOp a.eval o).run P w = .ok .skip w') (hdst : o.dst = none) (hQ : Q .normal a w') : (Code.region id #[o] false).wpIn F m P Q a w := by
  refine wpIn_region_lit (l := [o]) ?_
  unfold wpListIn
  rw [if_pos (by simp [Region.wanted, hg])]
  refine ⟨fun k _ => hF.fn k, ?_⟩
  rw [Oper.semAt_eq _ _ _ hd, hr]
  show wpListIn F m P #[o] Q [] (a.put o.dst undef) w'
  rw [hdst]
  exact hQ
theorem Wr {w A B : World} {row : Option Nat} {n0 : Nat} (h : w.grownBy A none) (hg : A.grownBy B row) (hn : w.heap.size ≤ n0) (hr : ∀ r, row = some r → n0 ≤ r ∧ ∃ o : Obj, A.heap[r]? = some o ∧ o.isCells = false) : w.grownBy B none :=
  ⟨hg.os.trans h.os, hg.tape.trans h.tape, hg.output.trans h.output, Nat.le_trans h.size hg.size, fun i hi _ => (hg.block i (Nat.lt_of_lt_of_le hi h.size) (fun e => by have := (hr i e.symm).1; omega)).trans (h.block i hi (by simp))⟩
theorem V8 {A B : World} {row : Option Nat} {b n0 : Nat} {T : TypeId} {cs : Array Value} (h : Blk A b T cs) (hg : A.grownBy B row) (hr : ∀ r, row = some r → n0 ≤ r ∧ ∃ o : Obj, A.heap[r]? = some o ∧ o.isCells = false) : Blk B b T cs :=
  h.grown hg (fun e => by
    obtain ⟨o, ho, hc⟩ := (hr b e.symm).2
    rw [show A.heap[b]? = _ from h] at ho
    cases ho
    cases hc)
theorem gob {w w' : World} (h : Below w.heap.size w w') : w.grownBy w' none := ⟨h.os, h.tape, h.output, h.size, fun k hk _ => h.block k hk⟩
theorem G9 {w A B : World} (h : w.grownBy A none) (k : Below w.heap.size A B) : w.grownBy B none :=
  ⟨k.os.trans h.os, k.tape.trans h.tape, k.output.trans h.output, Nat.le_trans h.size k.size, fun i hi _ => (k.block i hi).trans (h.block i hi (by simp))⟩
theorem H0 {w w' : World} {r : Option Nat} (h : w.grownBy w' none) : w.grownBy w' r := ⟨h.os, h.tape, h.output, h.size, fun i hi _ => h.block i hi (by simp)⟩
theorem Sn {F : Fence} {m : Nat} {P : Program} {n : Nat} {ops : Array Oper} {K : Fr → World → Prop} {l : List Oper} {f : Fr} {w : World} (k : Nat) (hF : Wd F) (hd : noDefer (l.take k) = true) (h : WpO P n ops (WpOG F m P n ops K (l.drop k)) (l.take k) f w) : WpOG F m P n ops K l f w := by
  have := N8 (K := K) hF hd h
  rwa [List.take_append_drop] at this
def allR (ms : List MTh) : List Rt := ms.flatMap (fun m => m.t.slots)
def preR (ms : List MTh) (k j : Nat) : List Rt := allR (ms.take k) ++ (mAt ms k).t.slots.take j
theorem L2 (ms : List MTh) (k : Nat) : preR ms k 0 = allR (ms.take k) := by simp [preR]
theorem Wg {ms : List MTh} {k j : Nat} (hj : j < (mAt ms k).t.slots.length) : preR ms k j ++ [rAt (mAt ms k).t.slots j] = preR ms k (j + 1) := by
  unfold preR
  rw [List.take_add_one, Qg hj, List.append_assoc]
  rfl
theorem Nr {ms : List MTh} {k j : Nat} (hk : k < ms.length) (hj : (mAt ms k).t.slots.length ≤ j) : preR ms k j = allR (ms.take (k + 1)) := by
  unfold preR allR
  rw [List.take_add_one, Ya hk, List.take_of_length_le hj, List.flatMap_append]
  simp
theorem Ui {ms : List MTh} {k : Nat} (hk : k < ms.length) : allR ms = allR (ms.take k) ++ ((mAt ms k).t.slots ++ allR (ms.drop (k + 1))) := by
  unfold allR
  conv => lhs; rw [← List.take_append_drop k ms, List.flatMap_append, Kl (Ya hk), List.flatMap_cons]
theorem Hg {ms : List MTh} {k j : Nat} (hk : k < ms.length) : preR ms k j <+: allR ms := by
  rw [Ui hk]
  unfold preR
  refine List.prefix_append_right_inj _ |>.2 ?_
  exact (List.take_prefix _ _).trans (List.prefix_append _ _)
theorem Ss {ms : List MTh} {k j : Nat} (hk : k < ms.length) (hj : j < (mAt ms k).t.slots.length) : (preR ms k j).length < (allR ms).length := by
  rw [Ui hk]
  unfold preR
  simp only [List.length_append, List.length_take]
  omega
theorem N2 {ms : List MTh} {k : Nat} (hk : ms.length ≤ k) : allR (ms.take k) = allR ms := by rw [List.take_of_length_le hk]
theorem P9 {ms : List MTh} {t : Th} : (decide (t.kind = 5) && !kindAt (tabT ms) t.to 1) = !gateOk (tabT ms) t := by
  unfold gateOk
  cases decide (t.kind = 5) <;> simp
def headOk (ts : List Th) (t : Th) : Bool := thingOk t && gateOk ts t
theorem Pt {ms : List MTh} (h : inR (ms.length : Int) 1 8 = false) : tableOk (tabT ms) = false := by
  unfold tableOk
  rw [Zz, h]
  rfl
theorem Le {ms : List MTh} {k : Nat} (hk : k < ms.length) (h : headOk (tabT ms) (mAt ms k).t = false) : tableOk (tabT ms) = false := by
  have h1 : (tabT ms).all (fun t => thingOk t && gateOk (tabT ms) t) = false := Qo (p := headOk (tabT ms)) (Km hk) h
  unfold tableOk
  rw [h1, Bool.false_and, Bool.and_false]
theorem G2 {ms : List MTh} {k : Nat} (hl : inR (ms.length : Int) 1 8 = true) (h : ((tabT ms).take k).all (headOk (tabT ms)) = true) (hk : ms.length ≤ k) : tableOk (tabT ms) = (allR ms).all (rightTo (tabT ms)) := by
  have h1 : (tabT ms).all (fun t => thingOk t && gateOk (tabT ms) t) = true := Qz (p := headOk (tabT ms)) h (by rw [Zz]; exact hk)
  unfold tableOk
  rw [h1, Zz, hl, Bool.true_and, Bool.true_and]
  generalize rightTo (tabT ms) = p
  unfold tabT allR
  rw [List.all_map, List.all_flatMap]
  rfl
theorem Nx {ts : List Th} {r : Rt} (h : decide (r.th = 0) = true) : rightTo ts r = true := by unfold rightTo; rw [h]; rfl
theorem Wv {ms : List MTh} {r : Rt} (h : decide (r.th = 0) = false) : ((!inR r.th 1 (ms.length : Int)) || (decide ((mAt ms (r.th - 1).toNat).t.ve < r.ve))) = !rightTo (tabT ms) r := by
  unfold rightTo
  rw [h, Bool.false_or, Js, Zz]
  cases inR r.th 1 (ms.length : Int)
  · rfl
  · have e : decide ((thAt (tabT ms) r.th).ve < r.ve) = !decide (r.ve ≤ (thAt (tabT ms) r.th).ve) := by
      rw [Bool.eq_iff_iff]; simp
    simp only [e, Bool.not_true, Bool.false_or, Bool.true_and]
theorem H4 {p : Rt → Bool} {a b : List Rt} (h : a <+: b) (ha : a.all p = false) : b.all p = false := by
  obtain ⟨c, rfl⟩ := h
  rw [List.all_append, ha, Bool.false_and]
end Go.Dw
end
section
namespace Go.Proofs.YtfoplmgoiblkgaaDoor
open Go.RowKit Go.Dw
set_option maxRecDepth 100000
set_option maxHeartbeats 4000000
set_option linter.unusedSimpArgs false
set_option linter.unusedVariables false
theorem Ls : goFn Tryd.prog 33 = true := by kernel_rfl
theorem My : goFn Tryd.prog 66 = true := by kernel_rfl
theorem Mo : goFn Tryd.prog 67 = true := by kernel_rfl
theorem V0 : oneTy Tryd.prog 27 = true := by kernel_rfl
theorem Bi : zeroTy Tryd.prog 4 = some (.bool false) := by kernel_rfl
theorem Gt (w : World) (ms : List MTh) (a : Option Addr) (c : Nat) : CallsR Tryd.prog 67 #[.slice a ms.length c] w (fun v w' => ∃ B : Nat, v = .func (.func 87) #[] #[.pointer (some ⟨B, 0, none⟩)] ∧ w.heap.size ≤ B ∧ Blk w' B 27 #[.slice a ms.length c] ∧ w.grownBy w' none) := by
 refine X0 (n := 4) Tryd.func67 rfl Tryd.ntmps67 rfl ?_
 have hb0 := World.grownBy.refl w none
 refine Xb ?_
 refine Yu (v := .slice a ms.length c) (cs := #[.slice a ms.length c]) rfl rfl rfl ?_
 intro B101 w102 hN103
 have hlB101 := Yf hN103 hb0
 have hb104 := low0 hb0 hN103.grw
 refine Xh (v := .nilFunc) rfl rfl ?_
 refine Xa ?_
 refine Xb ?_
 refine Wz (vs := [.pointer (some ⟨B101, 0, none⟩)]) (Xg rfl Xm) rfl ?_
 refine Xh (v := .func (.func 87) #[] #[.pointer (some ⟨B101, 0, none⟩)]) rfl rfl ?_
 refine Xa ?_
 refine Xs ?_
 refine ⟨.func (.func 87) #[] #[.pointer (some ⟨B101, 0, none⟩)], Yq rfl rfl, B101, rfl, hlB101, hN103.blk, hb104⟩
theorem Gd (m : Nat) (w : World) (B : Nat) (ms : List MTh) (a : Option Addr) (c : Nat) (ht : TabAt w a ms) (hlen : TabLen ms) (hn : ms.length ≤ 1048576) (hB : Blk w B 27 #[.slice a ms.length c]) :
    SeqStopsK Fence.wide m Tryd.prog 87 #[.pointer (some ⟨B, 0, none⟩)] (fun x : Rt => #[.agg x.cells.toArray]) (Below w.heap.size) (fun xs => xs = allR ms) (fun pre => pre <+: allR ms) (allR ms).length w := by
 intro l J Jx W hW hJ hJx hY h0
 have hb0 := gob hW
 show CallsIn Fence.wide m Tryd.prog 87 #[.func (.yield l) #[] #[], .pointer (some ⟨B, 0, none⟩)] W _
 refine (Uw (n := 26) (m := m) (R := fun v w' => (∃ xs, xs = allR ms ∧ J xs w') ∨ (∃ pre, pre <+: allR ms ∧ Jx pre w')) Tryd.func87 rfl Tryd.ntmps87 rfl ?_).mono (fun e w' ⟨v, he, h⟩ => ⟨⟨v, he⟩, h⟩)
 refine Z8 Q2 ?_
 refine Xi (v := .slice a ms.length c) V0 rfl ((hB.grown0 hb0).cell rfl) rfl ?_
 refine Ym (by kernel_rfl) rfl rfl ?_
 refine Xc (v := .int .i64 0) rfl rfl ?_
 refine Xa ?_
 refine Ke ?_
 refine Wl (fun mm f' w' => ∃ (k : Nat), mm = ms.length - k ∧ k ≤ ms.length ∧ J (allR (ms.take k)) w' ∧ f' 9 = .int .i64 (k : Int) ∧ f' 0 = .func (.yield l) #[] #[] ∧ f' 7 = .slice a ms.length c ∧ f' 8 = .int .i64 (ms.length : Int) ∧ w.grownBy w' none) (ms.length - 0) ⟨0, rfl, (Nat.zero_le _), h0, rfl, rfl, rfl, rfl, hb0⟩ ?_
 rintro mm f101 w102 ⟨k, hm104, hk, hJk, e105, e106, e107, e108, hb103⟩
 refine Z8 Q2 ?_
 refine Y4 (q := decide ((k : Int) < (ms.length : Int))) e105 e108 rfl rfl ?_
 refine Xa ?_
 refine J8 ?_
 refine Kg rfl (fun h109 => ?_) (fun h109 => ?_)
 ·
  have h110 := of_decide_eq_true h109
  refine K2 ?_
  refine Xv ?_
  refine J8 ?_
  refine Ke ?_
  refine Z8 Q2 ?_
  obtain ⟨b113, q114, o115, ha116, ho117, hr118⟩ := SlAt.at (TabAt.low ht hb103).1 (Yn (Ya (show k < ms.length by omega)))
  have hle119 := TabLen.at hlen (Ya (show k < ms.length by omega))
  refine Yd Zl e107 e105 ha116 ho117 (by omega) (by omega) rfl ?_
  refine Xu (vs := [.int .i64 ((mAt ms k).t.kind), .int .i64 ((mAt ms k).t.lab.s), .int .i64 ((mAt ms k).t.lab.v), .int .i64 ((mAt ms k).t.ve), .int .i64 ((mAt ms k).t.num), .slice ((mAt ms k).sa) ((mAt ms k).t.slots.length) ((mAt ms k).sc), .slice ((mAt ms k).qa) ((mAt ms k).t.queue.length) ((mAt ms k).qc), .int .i64 ((mAt ms k).t.to)]) Y0 rfl rfl (Za hr118 0 8 rfl) rfl ?_
  refine Yj (cs := #[.int .i64 0, .int .i64 0, .int .i64 0, .int .i64 0, .int .i64 0, .slice none 0 0, .slice none 0 0, .int .i64 0]) Jn rfl rfl ?_
  intro B120 w121 hN122
  have hlB120 := Yf hN122 hb103
  have hb123 := low0 hb103 hN122.grw
  refine Xz (vs := [.int .i64 ((mAt ms k).t.kind), .int .i64 ((mAt ms k).t.lab.s), .int .i64 ((mAt ms k).t.lab.v), .int .i64 ((mAt ms k).t.ve), .int .i64 ((mAt ms k).t.num), .slice ((mAt ms k).sa) ((mAt ms k).t.slots.length) ((mAt ms k).sc), .slice ((mAt ms k).qa) ((mAt ms k).t.queue.length) ((mAt ms k).qc), .int .i64 ((mAt ms k).t.to)]) (cs' := #[.int .i64 ((mAt ms k).t.kind), .int .i64 ((mAt ms k).t.lab.s), .int .i64 ((mAt ms k).t.lab.v), .int .i64 ((mAt ms k).t.ve), .int .i64 ((mAt ms k).t.num), .slice ((mAt ms k).sa) ((mAt ms k).t.slots.length) ((mAt ms k).sc), .slice ((mAt ms k).qa) ((mAt ms k).t.queue.length) ((mAt ms k).qc), .int .i64 ((mAt ms k).t.to)]) Y0 rfl rfl rfl (by simp [Value.oneCell']) hN122.blk (Nat.le_of_ble_eq_true rfl) rfl ?_
  intro w124 hS125
  have hb126 := low1 hb123 hS125.grw (by omega)
  refine Xa ?_
  refine Z8 Q2 ?_
  refine Xd (o' := 5) Zt rfl rfl rfl ?_
  refine Xi (v := .slice ((mAt ms k).sa) ((mAt ms k).t.slots.length) ((mAt ms k).sc)) Qq rfl (hS125.blk.cell rfl) rfl ?_
  refine Ym (by kernel_rfl) rfl rfl ?_
  refine Xc (v := .int .i64 0) rfl rfl ?_
  refine Xa ?_
  refine Ke ?_
  refine Wl (fun mm f' w' => ∃ (j : Nat), mm = (mAt ms k).t.slots.length - j ∧ j ≤ (mAt ms k).t.slots.length ∧ J (preR ms k j) w' ∧ f' 16 = .int .i64 (j : Int) ∧ f' 0 = .func (.yield l) #[] #[] ∧ f' 7 = .slice a ms.length c ∧ f' 8 = .int .i64 (ms.length : Int) ∧ f' 9 = .int .i64 (k : Int) ∧ f' 14 = .slice ((mAt ms k).sa) ((mAt ms k).t.slots.length) ((mAt ms k).sc) ∧ f' 15 = .int .i64 ((mAt ms k).t.slots.length : Int) ∧ w.grownBy w' none) ((mAt ms k).t.slots.length - 0) ⟨0, rfl, (Nat.zero_le _), (by rw [L2]; exact (hJ _ _ _ none hJk (low1 hN122.grw hS125.grw (Nat.le_trans ((World.grownBy.refl _ none)).size (Nat.le_of_eq hN122.eq.symm))) (fun r e => by cases e))), rfl, e106, e107, e108, e105, rfl, rfl, hb126⟩ ?_
  rintro mm f127 w128 ⟨j, hm130, hj, hJj, e131, e132, e133, e134, e135, e136, e137, hb129⟩
  refine Z8 Q2 ?_
  refine Y4 (q := decide ((j : Int) < ((mAt ms k).t.slots.length : Int))) e131 e137 rfl rfl ?_
  refine Xa ?_
  refine J8 ?_
  refine Kg rfl (fun h138 => ?_) (fun h138 => ?_)
  ·
   have h139 := of_decide_eq_true h138
   refine K2 ?_
   refine Xv ?_
   refine J8 ?_
   refine Ke ?_
   refine Z8 Q2 ?_
   obtain ⟨b142, q143, o144, ha145, ho146, hr147⟩ := SlAt.at (TabAt.th (TabAt.low ht hb129) (Ya (show k < ms.length by omega))).1 (Yn (Qg (show j < (mAt ms k).t.slots.length by omega)))
   refine Yd Ka e136 e131 ha145 ho146 (by omega) (by omega) rfl ?_
   refine Xu (vs := [.int .i64 ((rAt (mAt ms k).t.slots j).th), .int .i64 ((rAt (mAt ms k).t.slots j).ve), .bool ((rAt (mAt ms k).t.slots j).rd), .bool ((rAt (mAt ms k).t.slots j).wr), .bool ((rAt (mAt ms k).t.slots j).wk)]) Y8 rfl rfl (Za hr147 0 5 rfl) rfl ?_
   refine Yj (cs := #[.int .i64 0, .int .i64 0, .bool false, .bool false, .bool false]) J3 rfl rfl ?_
   intro B148 w149 hN150
   have hlB148 := Yf hN150 hb129
   have hb151 := low0 hb129 hN150.grw
   refine Xz (vs := [.int .i64 ((rAt (mAt ms k).t.slots j).th), .int .i64 ((rAt (mAt ms k).t.slots j).ve), .bool ((rAt (mAt ms k).t.slots j).rd), .bool ((rAt (mAt ms k).t.slots j).wr), .bool ((rAt (mAt ms k).t.slots j).wk)]) (cs' := #[.int .i64 ((rAt (mAt ms k).t.slots j).th), .int .i64 ((rAt (mAt ms k).t.slots j).ve), .bool ((rAt (mAt ms k).t.slots j).rd), .bool ((rAt (mAt ms k).t.slots j).wr), .bool ((rAt (mAt ms k).t.slots j).wk)]) Y8 rfl rfl rfl (by simp [Value.oneCell']) hN150.blk (Nat.le_of_ble_eq_true rfl) rfl ?_
   intro w152 hS153
   have hb154 := low1 hb151 hS153.grw (by omega)
   refine Xa ?_
   refine J8 ?_
   refine Vy ?_
   refine Sn 2 Q2 (by kernel_rfl) ?_
   simp only [List.take_succ_cons, List.take_zero]
   refine Xc (v := .func (.yield l) #[] #[]) e132 rfl ?_
   refine Xu (vs := [.int .i64 ((rAt (mAt ms k).t.slots j).th), .int .i64 ((rAt (mAt ms k).t.slots j).ve), .bool ((rAt (mAt ms k).t.slots j).rd), .bool ((rAt (mAt ms k).t.slots j).wr), .bool ((rAt (mAt ms k).t.slots j).wk)]) Y8 rfl rfl (hS153.blk.rangeL 0 5 rfl) rfl ?_
   refine Xa ?_
   simp only [List.drop_succ_cons, List.drop_zero]
   refine H7 Q2 rfl rfl (vs := [.agg #[.int .i64 ((rAt (mAt ms k).t.slots j).th), .int .i64 ((rAt (mAt ms k).t.slots j).ve), .bool ((rAt (mAt ms k).t.slots j).rd), .bool ((rAt (mAt ms k).t.slots j).wr), .bool ((rAt (mAt ms k).t.slots j).wk)]]) (Xg rfl Xm) rfl (hY (preR ms k j) _ _ (hJ _ _ _ none hJj (low1 hN150.grw hS153.grw (Nat.le_trans ((World.grownBy.refl _ none)).size (Nat.le_of_eq hN150.eq.symm))) (fun r e => by cases e)) (Ss (by omega) (by omega))) ?_
   rintro _ w155 (⟨rfl, hJ157, hg156⟩ | ⟨rfl, hJx158⟩)
   ·
    refine ⟨true, rfl, ?_⟩
    have hb159 := G9 hb154 hg156
    refine Gi Q2 (by kernel_rfl) ?_
    refine Yk (b' := false) rfl rfl rfl ?_
    refine Xa ?_
    refine Xv ?_
    refine L9 rfl rfl ?_
    refine K2 ?_
    refine Yy ?_
    refine Xv ?_
    refine Ki Q2 ?_
    refine Yx (c := (j : Int) + 1) e131 rfl (by omega) (by omega) (by omega) rfl ?_
    refine Xc (v := .int .i64 ((j : Int) + 1)) rfl rfl ?_
    refine Xa ?_
    refine Xv ?_
    exact ⟨(mAt ms k).t.slots.length - (j + 1), by omega, (j + 1), rfl, (by omega), (by rw [← Wg (by omega)]; exact hJ157), rfl, e132, e133, e134, e135, e136, e137, hb159⟩
   ·
    refine ⟨false, rfl, ?_⟩
    refine Gi Q2 (by kernel_rfl) ?_
    refine Yk (b' := true) rfl rfl rfl ?_
    refine Xa ?_
    refine Xv ?_
    refine L5 rfl rfl ?_
    refine Ln ?_
    refine Y6 ?_
    refine Yi ?_
    refine Yi ?_
    refine Y6 ?_
    refine Y6 ?_
    refine Yi ?_
    refine Yi ?_
    refine Y6 ?_
    refine ⟨.tuple #[], Tz rfl, Or.inr ⟨_, Hg (k := k) (j := j + 1) (by omega), ?_⟩⟩
    rw [← Wg (k := k) (j := j) (by omega)]
    exact hJx158
  ·
   have h160 := of_decide_eq_false h138
   refine Us ?_
   refine Y2 ?_
   refine Y2 ?_
   refine Z1 ?_
   refine Yy ?_
   refine Xv ?_
   refine Ki Q2 ?_
   refine Yx (c := (k : Int) + 1) e135 rfl (by omega) (by omega) (by omega) rfl ?_
   refine Xc (v := .int .i64 ((k : Int) + 1)) rfl rfl ?_
   refine Xa ?_
   refine Xv ?_
   exact ⟨ms.length - (k + 1), by omega, (k + 1), rfl, (by omega), (by rw [← Nr (j := j) (by omega) (by omega)]; exact hJj), rfl, e132, e133, e134, hb129⟩
 ·
  have h161 := of_decide_eq_false h109
  refine Us ?_
  refine Y2 ?_
  refine Y2 ?_
  refine Z1 ?_
  refine ⟨.tuple #[], Tz rfl, Or.inl ⟨_, rfl, ?_⟩⟩
  have kk := hJk
  rw [N2 (by omega)] at kk
  exact kk
end Go.Proofs.YtfoplmgoiblkgaaDoor
end
