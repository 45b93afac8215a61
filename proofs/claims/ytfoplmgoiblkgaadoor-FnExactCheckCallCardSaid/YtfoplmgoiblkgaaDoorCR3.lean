/- Laws and walks: my templates, and what a program of mine (gen.py) printed out of the functions; only what the row reaches. -/
import Derived.Test.YtfoplmgoiblkgaaDoorCR2
section
namespace Go.Proofs.YtfoplmgoiblkgaaDoor
open Go.RowKit Go.Dw
set_option maxRecDepth 100000
set_option maxHeartbeats 4000000
set_option linter.unusedSimpArgs false
set_option linter.unusedVariables false
theorem K5 (w : World) (ms : List MTh) (a : Option Addr) (c : Nat) (ht : TabAt w a ms) (hlen : TabLen ms) (hn : ms.length ≤ 1048576) : CallsR Tryd.prog 32 #[.slice a ms.length c] w (fun v w' => v = .bool (tableOk (tabT ms)) ∧ w.grownBy w' none) := by
 refine Tx (n := 53) (m := 9) Tryd.func32 rfl Tryd.ntmps32 rfl ?_
 have hb0 := World.grownBy.refl w none
 refine Kt ?_
 refine Yu (v := .slice a ms.length c) (cs := #[.slice a ms.length c]) rfl rfl rfl ?_
 intro B101 w102 hN103
 have hlB101 := Yf hN103 hb0
 have hb104 := low0 hb0 hN103.grw
 refine Yj (cs := #[.bool false]) Bi rfl rfl ?_
 intro B105 w106 hN107
 have hlB105 := Yf hN107 hb104
 have lt_B101_B105 := Xq hN107 (hN103.blk).lt
 have hb108 := low0 hb104 hN107.grw
 refine Xa ?_
 refine W8 ?_
 refine Xb ?_
 have k109 := (hN103.blk.grown0 hN107.grw)
 refine Xi (v := .slice a ms.length c) V0 rfl (k109.cell rfl) rfl ?_
 refine Ym (by kernel_rfl) rfl rfl ?_
 refine Xn (vs := [.int .i64 (ms.length : Int), .int .i64 1, .int .i64 8]) Ju (Xg rfl (Xg rfl (Xg rfl Xm))) rfl (Z0 (ms.length : Int) 1 8 _) ?_
 rintro _ w110 ⟨rfl, hg111⟩
 have hb112 := low0 hb108 hg111
 refine Yk (b' := !inR (ms.length : Int) 1 8) rfl rfl rfl ?_
 refine Xa ?_
 refine Xw rfl (fun h113 => ?_) (fun h113 => ?_)
 ·
  have h114 := Zn h113
  refine Xb ?_
  have k115 := (hN107.blk.grown0 hg111)
  refine Yc (v := .bool false) (cs' := #[.bool false]) Zv rfl rfl rfl k115 (Nat.le_of_ble_eq_true rfl) rfl ?_
  intro w116 hS117
  have hb118 := low1 hb112 hS117.grw (by omega)
  refine Xa ?_
  refine Xs ?_
  refine Yi ?_
  exact Tq (Zx rfl (Jm Zv rfl (hS117.blk.cell rfl))) ⟨congrArg Value.bool (Pt h114).symm, hb118⟩
 ·
  have h119 := Zh h113
  have hr120 := Zb.1 h119
  refine Xy ?_
  refine Xv ?_
  refine W8 ?_
  refine Xb ?_
  have k121 := (k109.grown0 hg111)
  refine Xi (v := .slice a ms.length c) V0 rfl (k121.cell rfl) rfl ?_
  refine Ym (by kernel_rfl) rfl rfl ?_
  refine Xc (v := .int .i64 0) rfl rfl ?_
  refine Xa ?_
  refine Ye ?_
  have k122 := (hN107.blk.grown0 hg111)
  refine Zd (fun mm f' w' => ∃ (k : Nat), mm = ms.length - k ∧ k ≤ ms.length ∧ (((tabT ms).take k).all (headOk (tabT ms))) = true ∧ f' 12 = .int .i64 (k : Int) ∧ f' 0 = .slice a ms.length c ∧ f' 1 = .pointer (some ⟨B101, 0, none⟩) ∧ f' 2 = .pointer (some ⟨B105, 0, none⟩) ∧ f' 10 = .slice a ms.length c ∧ f' 11 = .int .i64 (ms.length : Int) ∧ w.grownBy w' none ∧ Blk w' B101 27 #[.slice a ms.length c] ∧ Blk w' B105 4 #[.bool false]) (ms.length - 0) ⟨0, rfl, (Nat.zero_le _), rfl, rfl, rfl, rfl, rfl, rfl, rfl, hb112, k121, k122⟩ ?_
  rintro mm f123 w124 ⟨k, hm126, hk, hall, e127, e128, e129, e130, e131, e132, hb125, k133, k134⟩
  refine Xb ?_
  refine Y4 (q := decide ((k : Int) < (ms.length : Int))) e127 e132 rfl rfl ?_
  refine Xa ?_
  refine Xt ?_
  refine Xw rfl (fun h135 => ?_) (fun h135 => ?_)
  ·
   have h136 := of_decide_eq_true h135
   refine Xy ?_
   refine Xv ?_
   refine Xt ?_
   refine Ye ?_
   refine Xb ?_
   obtain ⟨b139, q140, o141, ha142, ho143, hr144⟩ := SlAt.at (TabAt.low ht hb125).1 (Yn (Ya (show k < ms.length by omega)))
   have hle145 := TabLen.at hlen (Ya (show k < ms.length by omega))
   refine Yd Zl e131 e127 ha142 ho143 (by omega) (by omega) rfl ?_
   refine Xu (vs := [.int .i64 ((mAt ms k).t.kind), .int .i64 ((mAt ms k).t.lab.s), .int .i64 ((mAt ms k).t.lab.v), .int .i64 ((mAt ms k).t.ve), .int .i64 ((mAt ms k).t.num), .slice ((mAt ms k).sa) ((mAt ms k).t.slots.length) ((mAt ms k).sc), .slice ((mAt ms k).qa) ((mAt ms k).t.queue.length) ((mAt ms k).qc), .int .i64 ((mAt ms k).t.to)]) Y0 rfl rfl (Za hr144 0 8 rfl) rfl ?_
   refine Yj (cs := #[.int .i64 0, .int .i64 0, .int .i64 0, .int .i64 0, .int .i64 0, .slice none 0 0, .slice none 0 0, .int .i64 0]) Jn rfl rfl ?_
   intro B146 w147 hN148
   have hlB146 := Yf hN148 hb125
   have lt_B101_B146 := Xq hN148 (k133).lt
   have lt_B105_B146 := Xq hN148 (k134).lt
   have hb149 := low0 hb125 hN148.grw
   refine Xz (vs := [.int .i64 ((mAt ms k).t.kind), .int .i64 ((mAt ms k).t.lab.s), .int .i64 ((mAt ms k).t.lab.v), .int .i64 ((mAt ms k).t.ve), .int .i64 ((mAt ms k).t.num), .slice ((mAt ms k).sa) ((mAt ms k).t.slots.length) ((mAt ms k).sc), .slice ((mAt ms k).qa) ((mAt ms k).t.queue.length) ((mAt ms k).qc), .int .i64 ((mAt ms k).t.to)]) (cs' := #[.int .i64 ((mAt ms k).t.kind), .int .i64 ((mAt ms k).t.lab.s), .int .i64 ((mAt ms k).t.lab.v), .int .i64 ((mAt ms k).t.ve), .int .i64 ((mAt ms k).t.num), .slice ((mAt ms k).sa) ((mAt ms k).t.slots.length) ((mAt ms k).sc), .slice ((mAt ms k).qa) ((mAt ms k).t.queue.length) ((mAt ms k).qc), .int .i64 ((mAt ms k).t.to)]) Y0 rfl rfl rfl (by simp [Value.oneCell']) hN148.blk (Nat.le_of_ble_eq_true rfl) rfl ?_
   intro w150 hS151
   have hb152 := low1 hb149 hS151.grw (by omega)
   refine Xa ?_
   refine Xt ?_
   refine Xb ?_
   refine Xu (vs := [.int .i64 ((mAt ms k).t.kind), .int .i64 ((mAt ms k).t.lab.s), .int .i64 ((mAt ms k).t.lab.v), .int .i64 ((mAt ms k).t.ve), .int .i64 ((mAt ms k).t.num), .slice ((mAt ms k).sa) ((mAt ms k).t.slots.length) ((mAt ms k).sc), .slice ((mAt ms k).qa) ((mAt ms k).t.queue.length) ((mAt ms k).qc), .int .i64 ((mAt ms k).t.to)]) Y0 rfl rfl (hS151.blk.rangeL 0 8 rfl) rfl ?_
   refine Xn (vs := [.agg #[.int .i64 ((mAt ms k).t.kind), .int .i64 ((mAt ms k).t.lab.s), .int .i64 ((mAt ms k).t.lab.v), .int .i64 ((mAt ms k).t.ve), .int .i64 ((mAt ms k).t.num), .slice ((mAt ms k).sa) ((mAt ms k).t.slots.length) ((mAt ms k).sc), .slice ((mAt ms k).qa) ((mAt ms k).t.queue.length) ((mAt ms k).qc), .int .i64 ((mAt ms k).t.to)]]) My (Xg rfl Xm) rfl (L3 (mAt ms k) _ (TabAt.th (TabAt.low ht hb152) (Ya (show k < ms.length by omega))).1 (TabAt.th (TabAt.low ht hb152) (Ya (show k < ms.length by omega))).2.1 (by first | omega | exact Nat.le_of_ble_eq_true rfl | (simp only [List.length_nil, List.length_cons, List.length_append, List.length_replicate]; omega)) (by first | omega | exact Nat.le_of_ble_eq_true rfl | (simp only [List.length_nil, List.length_cons, List.length_append, List.length_replicate]; omega))) ?_
   rintro _ w153 ⟨rfl, hg154⟩
   have hb155 := low0 hb152 hg154
   refine Yk (b' := !thingOk (mAt ms k).t) rfl rfl rfl ?_
   refine Xa ?_
   refine Xw rfl (fun h156 => ?_) (fun h156 => ?_)
   ·
    have h157 := Zn h156
    refine Xb ?_
    have k158 := (((k134.grown0 hN148.grw).grown hS151.grw (Xf (by omega))).grown0 hg154)
    refine Yc (v := .bool false) (cs' := #[.bool false]) Zv e130 rfl rfl k158 (Nat.le_of_ble_eq_true rfl) rfl ?_
    intro w159 hS160
    have hb161 := low1 hb155 hS160.grw (by omega)
    refine Xa ?_
    refine Xs ?_
    refine Yi ?_
    refine Y6 ?_
    refine Yi ?_
    refine Yi ?_
    refine Y6 ?_
    refine Yi ?_
    exact Tq (Zx rfl (Jm Zv e130 (hS160.blk.cell rfl))) ⟨congrArg Value.bool (Le (k := k) (by omega) (by unfold headOk; rw [h157]; rfl)).symm, hb161⟩
   ·
    have h162 := Zh h156
    refine Xy ?_
    refine Xv ?_
    refine X2 (fun f' w' => (f' 0 = .slice a ms.length c ∧ f' 1 = .pointer (some ⟨B101, 0, none⟩) ∧ f' 2 = .pointer (some ⟨B105, 0, none⟩) ∧ f' 10 = .slice a ms.length c ∧ f' 11 = .int .i64 (ms.length : Int) ∧ f' 12 = .int .i64 (k : Int) ∧ f' 28 = .bool ((decide ((mAt ms k).t.kind = 5)) && (!kindAt (tabT ms) ((mAt ms k).t.to) 1))) ∧ w153.grownBy w' none) ?_ ?_
    ·
     refine Xd (o' := 0) Yt rfl rfl rfl ?_
     have k169 := (hS151.blk.grown0 hg154)
     refine Xi (v := .int .i64 ((mAt ms k).t.kind)) X3 rfl (k169.cell rfl) rfl ?_
     refine X4 (q := decide ((mAt ms k).t.kind = 5)) rfl rfl rfl rfl ?_
     refine Xc (v := .bool (decide ((mAt ms k).t.kind = 5))) rfl rfl ?_
     rcases Yb (decide ((mAt ms k).t.kind = 5)) with h170 | h170
     ·
      have hgt171 := V7 h162 h170
      have h172 := of_decide_eq_true h170
      refine Xe rfl rfl rfl h170 ?_
      have k173 := (((k133.grown0 hN148.grw).grown hS151.grw (Xf (by omega))).grown0 hg154)
      refine Xi (v := .slice a ms.length c) V0 e129 (k173.cell rfl) rfl ?_
      refine Xe rfl rfl rfl h170 ?_
      refine Xd (o' := 7) Q6 rfl rfl rfl ?_
      refine Xe rfl rfl rfl h170 ?_
      refine Xi (v := .int .i64 ((mAt ms k).t.to)) X3 rfl (k169.cell rfl) rfl ?_
      refine Xe rfl rfl rfl h170 ?_
      refine Xn (vs := [.slice a ms.length c, .int .i64 ((mAt ms k).t.to), .int .i64 1]) Ls (Xg rfl (Xg rfl (Xg rfl Xm))) rfl (Vp ((mAt ms k).t.to) 1 (by omega) _ ms _ _ (TabAt.low ht hb155) hlen (by omega)) ?_
      rintro _ w174 ⟨rfl, hg175⟩
      have hb176 := low0 hb155 hg175
      refine Xe rfl rfl rfl h170 ?_
      refine Yk (b' := !kindAt (tabT ms) ((mAt ms k).t.to) 1) rfl rfl rfl ?_
      refine Xr (v := .bool (!kindAt (tabT ms) ((mAt ms k).t.to) 1)) rfl h170 rfl rfl ?_
      exact Xa ⟨⟨e128, e129, e130, e131, e132, e127, (congrArg Value.bool (by first | (simp only [h113, h119, h135, h156, h162, h170, b0, b1, b2, b3, b4, b5, b6, b7, b8, b9]; done) | simp [h113, h119, h135, h156, h162, h170]))⟩, hg175⟩
     ·
      have h177 := of_decide_eq_false h170
      iterate 5 refine Xk rfl rfl rfl h170 rfl ?_
      refine Xl (v := .bool false) rfl h170 rfl rfl ?_
      exact Xa ⟨⟨e128, e129, e130, e131, e132, e127, (congrArg Value.bool (by first | (simp only [h113, h119, h135, h156, h162, h170, b0, b1, b2, b3, b4, b5, b6, b7, b8, b9]; done) | simp [h113, h119, h135, h156, h162, h170]))⟩, (World.grownBy.refl _ _)⟩
    ·
     rintro f178 w179 ⟨⟨e180, e181, e182, e183, e184, e185, e186⟩, hg187⟩
     have hb188 := low0 hb155 hg187
     refine Xw e186 (fun h189 => ?_) (fun h189 => ?_)
     ·
      have h190 := Lk h189
      have hgt191 := V7 h162 h190
      have h192 := of_decide_eq_true h190
      have h193 := Li h189
      have h194 := Zn h193
      refine Xb ?_
      have k195 := ((((k134.grown0 hN148.grw).grown hS151.grw (Xf (by omega))).grown0 hg154).grown0 hg187)
      refine Yc (v := .bool false) (cs' := #[.bool false]) Zv e182 rfl rfl k195 (Nat.le_of_ble_eq_true rfl) rfl ?_
      intro w196 hS197
      have hb198 := low1 hb188 hS197.grw (by omega)
      refine Xa ?_
      refine Xs ?_
      refine Y6 ?_
      refine Yi ?_
      refine Yi ?_
      refine Y6 ?_
      refine Yi ?_
      exact Tq (Zx rfl (Jm Zv e182 (hS197.blk.cell rfl))) ⟨congrArg Value.bool (Le (k := k) (by omega) (by unfold headOk; rw [Zn (P9.symm.trans h189), Bool.and_false])).symm, hb198⟩
     ·
      refine Xy ?_
      refine Yy ?_
      refine Xv ?_
      refine X1 ?_
      refine Yx (c := (k : Int) + 1) e185 rfl (by omega) (by omega) (by omega) rfl ?_
      refine Xc (v := .int .i64 ((k : Int) + 1)) rfl rfl ?_
      refine Xa ?_
      refine Xv ?_
      have k199 := ((((k133.grown0 hN148.grw).grown hS151.grw (Xf (by omega))).grown0 hg154).grown0 hg187)
      have k200 := ((((k134.grown0 hN148.grw).grown hS151.grw (Xf (by omega))).grown0 hg154).grown0 hg187)
      exact ⟨ms.length - (k + 1), by omega, (k + 1), rfl, (by omega), (Qj (p := headOk (tabT ms)) hall (Km (by omega)) (by unfold headOk; rw [h162, Zh (P9.symm.trans h189)]; rfl)), rfl, e180, e181, e182, e183, e184, hb188, k199, k200⟩
  ·
   have h201 := of_decide_eq_false h135
   refine Y5 ?_
   refine Y2 ?_
   refine Y2 ?_
   refine Z1 ?_
   refine Xv ?_
   refine Ro ?_
   refine Kt ?_
   refine Xi (v := .slice a ms.length c) V0 e129 (k133.cell rfl) rfl ?_
   refine Xn (vs := [.slice a ms.length c]) Mo (Xg rfl Xm) rfl (Gt _ ms _ _) ?_
   rintro _ w206 ⟨B202, rfl, hge203, k204, hg205⟩
   have hb207 := low0 hb125 hg205
   have hlB202 := Nat.le_trans hb125.size hge203
   have lt_B101_B202 := Nat.lt_of_lt_of_le (k133).lt hge203
   have lt_B105_B202 := Nat.lt_of_lt_of_le (k134).lt hge203
   refine Xa ?_
   have k208 := (k133.grown0 hg205)
   have k209 := (k134.grown0 hg205)
   refine Sd (fun f' => f' 1 = .pointer (some ⟨B101, 0, none⟩) ∧ f' 2 = .pointer (some ⟨B105, 0, none⟩) ∧ f' 31 = .func (.func 87) #[] #[.pointer (some ⟨B202, 0, none⟩)]) ⟨e129, e130, rfl⟩ ?_
   rintro fT ⟨e1, e2, e3⟩ a0 ha
   obtain ⟨tm, df⟩ := a0
   obtain rfl : df = [] := ha.defers
   have hlb2 : B105 < w206.heap.size := (k209).lt
   refine wpIn_block ?_
   refine wpIn_rangeFunc_ownH (F := Fence.wide) (n := 9) rfl (by omega) (gf := 87) (lb := #[.pointer (some ⟨B202, 0, none⟩)]) (by rw [ha.eval]; exact e3) trivial (enters_of Tryd.func87 (by kernel_rfl) rfl) (Gd 8 w206 B202 ms a c (TabAt.low ht hb207) hlen hn k204) belowK_t (belowK_b (Nat.le_refl _)) (Below.refl _ _) (fun _ => rfl) (fun pre W => w.grownBy W none ∧ Blk W B101 27 #[.slice a ms.length c] ∧ Blk W B105 4 #[.bool false] ∧ pre.all (rightTo (tabT ms)) = true ∧ w206.heap.size ≤ W.heap.size) (fun c pre W => c = .ret ∧ w.grownBy W none ∧ Blk W B105 4 #[.bool false] ∧ pre.all (rightTo (tabT ms)) = false) (fun s A B row hs hg hr => ⟨Wr hs.1 hg hb207.size hr, V8 hs.2.1 hg hr, V8 hs.2.2.1 hg hr, hs.2.2.2.1, Nat.le_trans hs.2.2.2.2 hg.size⟩) (fun c s A B row hs hg hr => ⟨hs.1, Wr hs.2.1 hg hb207.size hr, V8 hs.2.2.1 hg hr, hs.2.2.2⟩) ⟨hb207, k208, k209, rfl, Nat.le_refl _⟩ (fun x a' W => ∃ (Bx : Nat) (f' : Fr), Blk W Bx 37 x.cells.toArray ∧ FEq 53 a' f' ∧ f' 5 = .pointer (some ⟨Bx, 0, none⟩) ∧ f' 1 = .pointer (some ⟨B101, 0, none⟩) ∧ f' 2 = .pointer (some ⟨B105, 0, none⟩)) (fun x a' _ A B row hs hg hr => by obtain ⟨Bx, f', h1, h2⟩ := hs; exact ⟨Bx, f', V8 h1 hg hr, h2⟩) ?assign ?body ?done ?stop
   case assign =>
    intro l pre x W K hi hK
    refine wpIn_mono ((?_ : Wpg (Fence.wide.inRound l) (9 - 1 - 1) Tryd.prog 53 (fun e f' w' => e = .normal ∧ ∃ Bx : Nat, W.grownBy w' none ∧ Blk w' Bx 37 x.cells.toArray ∧ f' 5 = .pointer (some ⟨Bx, 0, none⟩) ∧ f' 1 = .pointer (some ⟨B101, 0, none⟩) ∧ f' 2 = .pointer (some ⟨B105, 0, none⟩)) _ (up fT 32 (.agg x.cells.toArray)) W) _ (by have hp := ha.put (d := 32) rfl (.agg x.cells.toArray); simpa [Act.put] using hp)) ?_
    ·
     have hlW := hi.2.2.2.2
     refine Ki (Kx l) ?_
     refine Yj (cs := #[.int .i64 0, .int .i64 0, .bool false, .bool false, .bool false]) J3 rfl rfl ?_
     intro B210 w211 hN212
     have hlB210 := Yf hN212 hi.1
     have hb213 := low0 hi.1 hN212.grw
     refine Xz (vs := [.int .i64 x.th, .int .i64 x.ve, .bool x.rd, .bool x.wr, .bool x.wk]) (cs' := #[.int .i64 x.th, .int .i64 x.ve, .bool x.rd, .bool x.wr, .bool x.wk]) Y8 rfl rfl rfl (by simp [Value.oneCell']) hN212.blk (Nat.le_of_ble_eq_true rfl) rfl ?_
     intro w214 hS215
     have hb216 := low1 hb213 hS215.grw (by omega)
     refine Xa ?_
     exact ⟨rfl, B210, (low1 hN212.grw hS215.grw (Nat.le_trans ((World.grownBy.refl _ none)).size (Nat.le_of_eq hN212.eq.symm))), hS215.blk, rfl, e1, e2⟩
    ·
     rintro e a' w' ⟨f', hf', rfl, Bx, hg, hb, h5, h1, h2⟩
     exact hK a' w' (KeepsFrom.of_grownBy hg (fun j e => by cases e)) (Jb hg hi.2.2.2.2) ⟨low0 hi.1 hg, hi.2.1.grown0 hg, hi.2.2.1.grown0 hg, hi.2.2.2.1, Nat.le_trans hi.2.2.2.2 hg.size⟩ ⟨Bx, f', hb, hf', h5, h1, h2⟩
   case body =>
    rintro l pre x a' W hl hr hi ⟨Bx, f', hbx, hf', h5, h1, h2⟩ hlt
    refine wpIn_mono ((?_ : Wpg (Fence.wide.inRound l) (9 - 1 - 1) Tryd.prog 53 (fun e f'' w' => (e = .normal ∧ W.grownBy w' none ∧ rightTo (tabT ms) x = true) ∨ (e = .ret ∧ W.grownBy w' (some B105) ∧ w.grownBy w' none ∧ Blk w' B105 4 #[.bool false] ∧ rightTo (tabT ms) x = false)) _ f' W) a' hf') ?_
    ·
     refine Ke ?_
     refine J8 ?_
     refine Z8 (Kx l) ?_
     refine Xd (o' := 0) Yp h5 rfl rfl ?_
     refine Xi (v := .int .i64 x.th) X3 rfl (hbx.cell rfl) rfl ?_
     refine X4 (q := decide (x.th = 0)) rfl rfl rfl rfl ?_
     refine Xa ?_
     refine Kg rfl (fun h217 => ?_) (fun h217 => ?_)
     ·
      have h218 := of_decide_eq_true h217
      refine Us ?_
      refine Y2 ?_
      refine Z1 ?_
      exact Or.inl ⟨rfl, (World.grownBy.refl _ _), Nx h217⟩
     ·
      have h219 := of_decide_eq_false h217
      refine K2 ?_
      refine Xv ?_
      refine Gn (fun f' w' => (f' 2 = .pointer (some ⟨B105, 0, none⟩) ∧ f' 52 = .bool ((!inR x.th 1 (ms.length : Int)) || (decide ((mAt ms ((x.th - 1).toNat)).t.ve < x.ve)))) ∧ W.grownBy w' none) ?_ ?_
      ·
       rcases Yb (!inR x.th 1 (ms.length : Int)) with h240 | h240
       ·
        have h241 := Zn h240
        refine G5 (Kx l) (m := 15) (vals := [(36, .slice a ms.length c), (37, .pointer (some ⟨Bx, 0, none⟩)), (38, .int .i64 x.th), (39, .bool (inR x.th 1 (ms.length : Int))), (40, .bool (!inR x.th 1 (ms.length : Int))), (41, .bool (!inR x.th 1 (ms.length : Int))), (42, undef), (43, undef), (44, undef), (45, undef), (46, undef), (47, undef), (48, undef), (49, undef), (50, undef)]) (fun w' => W.grownBy w' none) Zi (by kernel_rfl) (Yl _) ?_ ?_
        ·
         refine Xj rfl (fun w251 hi252 => ?_) ?_
         ·
          have hb253 := low0 hi.1 hi252
          have k254 := (hi.2.1.grown0 hi252)
          refine Xi (v := .slice a ms.length c) V0 h1 (k254.cell rfl) rfl ?_
          exact Xa ⟨rfl, hi252⟩
         refine Xj rfl (fun w255 hi256 => ?_) ?_
         ·
          have hb257 := low0 hi.1 hi256
          refine Xd (o' := 0) Yp h5 rfl rfl ?_
          exact Xa ⟨rfl, hi256⟩
         refine Xj rfl (fun w258 hi259 => ?_) ?_
         ·
          have hb260 := low0 hi.1 hi259
          have k261 := (hbx.grown0 hi259)
          refine Xi (v := .int .i64 x.th) X3 rfl (k261.cell rfl) rfl ?_
          exact Xa ⟨rfl, hi259⟩
         refine Xj rfl (fun w262 hi263 => ?_) ?_
         ·
          have hb264 := low0 hi.1 hi263
          refine Xn (vs := [.slice a ms.length c, .int .i64 x.th]) Ux (Xg rfl (Xg rfl Xm)) rfl (Qi x.th _ _ _ _) ?_
          rintro _ w265 ⟨rfl, hg266⟩
          have hb267 := low0 hb264 hg266
          exact Xa ⟨rfl, (grown_trans hi263 hg266)⟩
         refine Xj rfl (fun w268 hi269 => ?_) ?_
         ·
          have hb270 := low0 hi.1 hi269
          refine Yk (b' := !inR x.th 1 (ms.length : Int)) rfl rfl rfl ?_
          exact Xa ⟨rfl, hi269⟩
         refine Xj rfl (fun w271 hi272 => ?_) ?_
         ·
          have hb273 := low0 hi.1 hi272
          refine Xc (v := .bool (!inR x.th 1 (ms.length : Int))) rfl rfl ?_
          exact Xa ⟨rfl, hi272⟩
         refine Xj rfl (fun w274 hi275 => ?_) ?_
         ·
          have hb276 := low0 hi.1 hi275
          refine Xk rfl rfl rfl h240 rfl ?_
          exact Xa ⟨rfl, hi275⟩
         refine Xj rfl (fun w277 hi278 => ?_) ?_
         ·
          have hb279 := low0 hi.1 hi278
          refine Xk rfl rfl rfl h240 rfl ?_
          exact Xa ⟨rfl, hi278⟩
         refine Xj rfl (fun w280 hi281 => ?_) ?_
         ·
          have hb282 := low0 hi.1 hi281
          refine Xk rfl rfl rfl h240 rfl ?_
          exact Xa ⟨rfl, hi281⟩
         refine Xj rfl (fun w283 hi284 => ?_) ?_
         ·
          have hb285 := low0 hi.1 hi284
          refine Xk rfl rfl rfl h240 rfl ?_
          exact Xa ⟨rfl, hi284⟩
         refine Xj rfl (fun w286 hi287 => ?_) ?_
         ·
          have hb288 := low0 hi.1 hi287
          refine Xk rfl rfl rfl h240 rfl ?_
          exact Xa ⟨rfl, hi287⟩
         refine Xj rfl (fun w289 hi290 => ?_) ?_
         ·
          have hb291 := low0 hi.1 hi290
          refine Xk rfl rfl rfl h240 rfl ?_
          exact Xa ⟨rfl, hi290⟩
         refine Xj rfl (fun w292 hi293 => ?_) ?_
         ·
          have hb294 := low0 hi.1 hi293
          refine Xk rfl rfl rfl h240 rfl ?_
          exact Xa ⟨rfl, hi293⟩
         refine Xj rfl (fun w295 hi296 => ?_) ?_
         ·
          have hb297 := low0 hi.1 hi296
          refine Xk rfl rfl rfl h240 rfl ?_
          exact Xa ⟨rfl, hi296⟩
         refine Xj rfl (fun w298 hi299 => ?_) ?_
         ·
          have hb300 := low0 hi.1 hi299
          refine Xk rfl rfl rfl h240 rfl ?_
          exact Xa ⟨rfl, hi299⟩
         exact Zj
        ·
         intro w301 hi302
         have hb303 := low0 hi.1 hi302
         refine Xk rfl rfl rfl h240 rfl ?_
         refine Xr (v := .bool true) rfl h240 rfl rfl ?_
         exact Xa (Xv ⟨⟨h2, (congrArg Value.bool (by first | (simp only [h217, h240, h241, b0, b1, b2, b3, b4, b5, b6, b7, b8, b9]; done) | simp [h217, h240, h241]))⟩, hi302⟩)
       ·
        have h304 := Zh h240
        have hr305 := Zb.1 h304
        obtain ⟨b327, q328, o329, ha330, ho331, hr332⟩ := SlAt.at (TabAt.low ht hi.1).1 (Yn (Ya (show (x.th - 1).toNat < ms.length by omega)))
        have hle333 := TabLen.at hlen (Ya (show (x.th - 1).toNat < ms.length by omega))
        refine G5 (Kx l) (m := 15) (vals := [(36, .slice a ms.length c), (37, .pointer (some ⟨Bx, 0, none⟩)), (38, .int .i64 x.th), (39, .bool (inR x.th 1 (ms.length : Int))), (40, .bool (!inR x.th 1 (ms.length : Int))), (41, .bool (!inR x.th 1 (ms.length : Int))), (42, .pointer (some ⟨Bx, 1, none⟩)), (43, .int .i64 x.ve), (44, .slice a ms.length c), (45, .pointer (some ⟨Bx, 0, none⟩)), (46, .int .i64 x.th), (47, .int .i64 (x.th - 1)), (48, .pointer (some ⟨b327, o329, none⟩)), (49, .pointer (some ⟨b327, o329 + 3, none⟩)), (50, .int .i64 ((mAt ms ((x.th - 1).toNat)).t.ve))]) (fun w' => W.grownBy w' none) Zi (by kernel_rfl) (Yl _) ?_ ?_
        ·
         refine Xj rfl (fun w339 hi340 => ?_) ?_
         ·
          have hb341 := low0 hi.1 hi340
          have k342 := (hi.2.1.grown0 hi340)
          refine Xi (v := .slice a ms.length c) V0 h1 (k342.cell rfl) rfl ?_
          exact Xa ⟨rfl, hi340⟩
         refine Xj rfl (fun w343 hi344 => ?_) ?_
         ·
          have hb345 := low0 hi.1 hi344
          refine Xd (o' := 0) Yp h5 rfl rfl ?_
          exact Xa ⟨rfl, hi344⟩
         refine Xj rfl (fun w346 hi347 => ?_) ?_
         ·
          have hb348 := low0 hi.1 hi347
          have k349 := (hbx.grown0 hi347)
          refine Xi (v := .int .i64 x.th) X3 rfl (k349.cell rfl) rfl ?_
          exact Xa ⟨rfl, hi347⟩
         refine Xj rfl (fun w350 hi351 => ?_) ?_
         ·
          have hb352 := low0 hi.1 hi351
          refine Xn (vs := [.slice a ms.length c, .int .i64 x.th]) Ux (Xg rfl (Xg rfl Xm)) rfl (Qi x.th _ _ _ _) ?_
          rintro _ w353 ⟨rfl, hg354⟩
          have hb355 := low0 hb352 hg354
          exact Xa ⟨rfl, (grown_trans hi351 hg354)⟩
         refine Xj rfl (fun w356 hi357 => ?_) ?_
         ·
          have hb358 := low0 hi.1 hi357
          refine Yk (b' := !inR x.th 1 (ms.length : Int)) rfl rfl rfl ?_
          exact Xa ⟨rfl, hi357⟩
         refine Xj rfl (fun w359 hi360 => ?_) ?_
         ·
          have hb361 := low0 hi.1 hi360
          refine Xc (v := .bool (!inR x.th 1 (ms.length : Int))) rfl rfl ?_
          exact Xa ⟨rfl, hi360⟩
         refine Xj rfl (fun w362 hi363 => ?_) ?_
         ·
          have hb364 := low0 hi.1 hi363
          refine Xe rfl rfl rfl h240 ?_
          refine Xd (o' := 1) Ql h5 rfl rfl ?_
          exact Xa ⟨rfl, hi363⟩
         refine Xj rfl (fun w365 hi366 => ?_) ?_
         ·
          have hb367 := low0 hi.1 hi366
          refine Xe rfl rfl rfl h240 ?_
          have k368 := (hbx.grown0 hi366)
          refine Xi (v := .int .i64 x.ve) X3 rfl (k368.cell rfl) rfl ?_
          exact Xa ⟨rfl, hi366⟩
         refine Xj rfl (fun w369 hi370 => ?_) ?_
         ·
          have hb371 := low0 hi.1 hi370
          refine Xe rfl rfl rfl h240 ?_
          have k372 := (hi.2.1.grown0 hi370)
          refine Xi (v := .slice a ms.length c) V0 h1 (k372.cell rfl) rfl ?_
          exact Xa ⟨rfl, hi370⟩
         refine Xj rfl (fun w373 hi374 => ?_) ?_
         ·
          have hb375 := low0 hi.1 hi374
          refine Xe rfl rfl rfl h240 ?_
          refine Xd (o' := 0) Yp h5 rfl rfl ?_
          exact Xa ⟨rfl, hi374⟩
         refine Xj rfl (fun w376 hi377 => ?_) ?_
         ·
          have hb378 := low0 hi.1 hi377
          refine Xe rfl rfl rfl h240 ?_
          have k379 := (hbx.grown0 hi377)
          refine Xi (v := .int .i64 x.th) X3 rfl (k379.cell rfl) rfl ?_
          exact Xa ⟨rfl, hi377⟩
         refine Xj rfl (fun w380 hi381 => ?_) ?_
         ·
          have hb382 := low0 hi.1 hi381
          refine Xe rfl rfl rfl h240 ?_
          refine Y3 (c := x.th - 1) rfl rfl (by omega) (by omega) (by omega) rfl ?_
          exact Xa ⟨rfl, hi381⟩
         refine Xj rfl (fun w383 hi384 => ?_) ?_
         ·
          have hb385 := low0 hi.1 hi384
          refine Xe rfl rfl rfl h240 ?_
          refine Yd Zl rfl rfl ha330 ho331 (by omega) (by omega) rfl ?_
          exact Xa ⟨rfl, hi384⟩
         refine Xj rfl (fun w386 hi387 => ?_) ?_
         ·
          have hb388 := low0 hi.1 hi387
          refine Xe rfl rfl rfl h240 ?_
          refine Xd (o' := o329 + 3) Z6 rfl rfl rfl ?_
          exact Xa ⟨rfl, hi387⟩
         refine Xj rfl (fun w389 hi390 => ?_) ?_
         ·
          have hb391 := low0 hi.1 hi390
          refine Xe rfl rfl rfl h240 ?_
          refine Xi (v := .int .i64 ((mAt ms ((x.th - 1).toNat)).t.ve)) X3 rfl ((Yo hr332 hi390) 3 _ rfl) rfl ?_
          exact Xa ⟨rfl, hi390⟩
         exact Zj
        ·
         intro w392 hi393
         have hb394 := low0 hi.1 hi393
         refine Xe rfl rfl rfl h240 ?_
         refine Zq (q := decide ((mAt ms ((x.th - 1).toNat)).t.ve < x.ve)) rfl rfl rfl rfl ?_
         refine Xl (v := .bool (decide ((mAt ms ((x.th - 1).toNat)).t.ve < x.ve))) rfl h240 rfl rfl ?_
         exact Xa (Xv ⟨⟨h2, (congrArg Value.bool (by first | (simp only [h217, h240, h304, b0, b1, b2, b3, b4, b5, b6, b7, b8, b9]; done) | simp [h217, h240, h304]))⟩, hi393⟩)
      ·
       rintro f395 w396 ⟨⟨e397, e398⟩, hg399⟩
       have hb400 := low0 hi.1 hg399
       refine Kg e398 (fun h401 => ?_) (fun h401 => ?_)
       ·
        refine Z8 (Kx l) ?_
        have k402 := (hi.2.2.1.grown0 hg399)
        refine Yc (v := .bool false) (cs' := #[.bool false]) Zv e397 rfl rfl k402 (Nat.le_of_ble_eq_true rfl) rfl ?_
        intro w403 hS404
        have hb405 := low1 hb400 hS404.grw (by omega)
        refine Xa ?_
        refine Ln ?_
        refine Y6 ?_
        exact Or.inr ⟨rfl, (grown_trans (H0 hg399) hS404.grw), hb405, hS404.blk, Zn ((Wv h217).symm.trans h401)⟩
       ·
        have h406 := Qx h401
        have h407 := Zh h406
        have hr408 := Zb.1 h407
        have h409 := Qy h401
        have h410 := of_decide_eq_false h409
        refine K2 ?_
        refine Yy ?_
        exact Or.inl ⟨rfl, hg399, Zh ((Wv h217).symm.trans h401)⟩
    ·
     rintro e a2 w2 ⟨f2, hf2, (⟨rfl, hg, hx⟩ | ⟨rfl, hg, hg0, hb, hx⟩)⟩
     ·
      exact ⟨KeepsFrom.of_grownBy hg (fun j e => by cases e), Jb hg hi.2.2.2.2, low0 hi.1 hg, hi.2.1.grown0 hg, hi.2.2.1.grown0 hg, by rw [List.all_append, hi.2.2.2.1]; simp [hx], Nat.le_trans hi.2.2.2.2 hg.size⟩
     ·
      exact ⟨KeepsFrom.of_grownBy hg (fun j e => by cases e; exact hlb2), rfl, hg0, hb, by rw [List.all_append]; simp [hx]⟩
   case done =>
    intro D xs W hD hS hi hK
    subst hS
    have hDB : D ≠ B105 := by omega
    have hDl : D < W.heap.size := (Array.getElem?_eq_some_iff.1 hK).1
    have hsb := setB_setRow hi.2.2.1 #[.bool true]
    refine wpIn_seq ?_
    refine Gg Q2 (fun c h => by cases h) rfl (w' := W.setRow B105 #[.bool true]) ?_ rfl ?_
    ·
     have he : Act.eval { tmps := tm, defers := [{ target := .collected D, args := #[] }] } = ev fT := ha.eval
     rw [he]
     have hst := Ve (w := W) (v := .bool true) (o := 0) Zv rfl hi.2.2.1 (by simp)
     simp [execOp, show ev fT (.tmp 2) = _ from e2, show ev fT (.const (.bool true)) = .bool true from rfl, hst]
    ·
     refine wpIn_ret ?_
     have hK' : (W.setRow B105 #[.bool true]).heap[D]? = some (.deferred (some [])) := (hsb.grw.block D hDl (fun e => hDB (Option.some.inj e))).trans hK
     have hgp := grownBy_putObj' (W.setRow B105 #[.bool true]) D (.deferred none)
     have hb2 := hsb.blk.grown hgp (Xf (Ne.symm hDB))
     refine Mr (v := .bool true) (a := { tmps := tm, defers := [] }) ha hK' (Zx rfl (Jm Zv e2 (hb2.cell rfl))) ⟨?_, ?_⟩
     ·
      rw [G2 h119 hall (by omega), hi.2.2.2.1]
     ·
      exact low1 (low1 hi.1 hsb.grw (by omega)) hgp (Nat.le_trans hb207.size hD)
   case stop =>
    intro D c pre W hD hSp hx hK
    obtain ⟨rfl, hg, hb, hf⟩ := hx
    have hDB : D ≠ B105 := by omega
    have hgp := grownBy_putObj' W D (.deferred none)
    have hb2 := hb.grown hgp (Xf (Ne.symm hDB))
    refine wpIn_ret ?_
    refine Mr (v := .bool false) (a := { tmps := tm, defers := [] }) ha hK (Zx rfl (Jm Zv e2 (hb2.cell rfl))) ⟨?_, ?_⟩
    ·
     rw [G2 h119 hall (by omega), H4 hSp hf]
    ·
     exact low1 hg hgp (Nat.le_trans hb207.size hD)
end Go.Proofs.YtfoplmgoiblkgaaDoor
end
section
namespace Go.Proofs.YtfoplmgoiblkgaaDoor
open Go.RowKit Go.Dw
set_option maxRecDepth 100000
set_option maxHeartbeats 4000000
set_option linter.unusedSimpArgs false
set_option linter.unusedVariables false
end Go.Proofs.YtfoplmgoiblkgaaDoor
end
section
namespace Go.Dw
def Cl.zero : Cl := ⟨0, 0, 0, 0, 0⟩
def callOk (c : Cl) : Bool := (((inR c.kind 1 9 && inR c.run 1 8) && inR c.a 0 3) && inR c.b 0 3) && inR c.n 0 99
theorem Z2 {c : Cl} (h : callOk c = true) : (1 ≤ c.kind ∧ c.kind ≤ 9) ∧ (1 ≤ c.run ∧ c.run ≤ 8) ∧ (0 ≤ c.a ∧ c.a ≤ 3) ∧ (0 ≤ c.b ∧ c.b ≤ 3) ∧ 0 ≤ c.n ∧ c.n ≤ 99 := by
  unfold callOk at h
  simp only [Bool.and_eq_true] at h
  exact ⟨Zb.1 h.1.1.1.1, Zb.1 h.1.1.1.2, Zb.1 h.1.1.2, Zb.1 h.1.2, Zb.1 h.2⟩
def callPoss (ts : List Th) (c : Cl) : Bool := (tableOk ts && callOk c) && kindAt ts c.run 3
end Go.Dw
end
section
namespace Go.Proofs.YtfoplmgoiblkgaaDoor
open Go.RowKit Go.Dw
set_option maxRecDepth 100000
set_option maxHeartbeats 4000000
set_option linter.unusedSimpArgs false
set_option linter.unusedVariables false
theorem R1 : fieldOff Tryd.prog 24 0 = some 0 := by kernel_rfl
theorem R4 : fieldOff Tryd.prog 24 1 = some 1 := by kernel_rfl
theorem Rs : fieldOff Tryd.prog 24 2 = some 2 := by kernel_rfl
theorem St : fieldOff Tryd.prog 24 3 = some 3 := by kernel_rfl
theorem R6 : fieldOff Tryd.prog 24 4 = some 4 := by kernel_rfl
theorem Zm : fieldOff Tryd.prog 29 0 = some 0 := by kernel_rfl
theorem Zk : fieldOff Tryd.prog 29 1 = some 1 := by kernel_rfl
theorem Qt : fieldOff Tryd.prog 29 2 = some 2 := by kernel_rfl
theorem W7 : fieldOff Tryd.prog 29 3 = some 3 := by kernel_rfl
theorem J9 : fieldOff Tryd.prog 29 4 = some 4 := by kernel_rfl
theorem Ll : goFn Tryd.prog 32 = true := by kernel_rfl
theorem Mb : goFn Tryd.prog 77 = true := by kernel_rfl
theorem Yv : rowTy Tryd.prog 29 = some 5 := by kernel_rfl
theorem Vw : zeroTy Tryd.prog 29 = some (.agg #[.int .i64 0, .int .i64 0, .int .i64 0, .int .i64 0, .int .i64 0]) := by kernel_rfl
theorem Pr (c : Cl) (w : World) : CallsR Tryd.prog 77 #[.agg #[.int .i64 c.kind, .int .i64 c.run, .int .i64 c.a, .int .i64 c.b, .int .i64 c.n]] w (fun v w' => v = .bool (callOk c) ∧ w.grownBy w' none) := by
 refine X0 (n := 26) Tryd.func77 rfl Tryd.ntmps77 rfl ?_
 have hb0 := World.grownBy.refl w none
 refine Xb ?_
 refine Yu (v := .agg #[.int .i64 c.kind, .int .i64 c.run, .int .i64 c.a, .int .i64 c.b, .int .i64 c.n]) (cs := #[.int .i64 c.kind, .int .i64 c.run, .int .i64 c.a, .int .i64 c.b, .int .i64 c.n]) rfl rfl rfl ?_
 intro B101 w102 hN103
 have hlB101 := Yf hN103 hb0
 have hb104 := low0 hb0 hN103.grw
 refine Xh (v := .bool false) rfl rfl ?_
 refine Xa ?_
 refine X2 (fun f' w' => (f' 2 = .bool ((((inR c.kind 1 9 && inR c.run 1 8) && inR c.a 0 3) && inR c.b 0 3) && inR c.n 0 99)) ∧ w102.grownBy w' none) ?_ ?_
 ·
  refine Xd (o' := 0) Zm rfl rfl rfl ?_
  refine Xi (v := .int .i64 c.kind) X3 rfl (hN103.blk.cell rfl) rfl ?_
  refine Xn (vs := [.int .i64 c.kind, .int .i64 1, .int .i64 9]) Ju (Xg rfl (Xg rfl (Xg rfl Xm))) rfl (Z0 c.kind 1 9 _) ?_
  rintro _ w127 ⟨rfl, hg128⟩
  have hb129 := low0 hb104 hg128
  refine Xc (v := .bool (inR c.kind 1 9)) rfl rfl ?_
  rcases Yb (inR c.kind 1 9) with h130 | h130
  ·
   have hr131 := Zb.1 h130
   refine Xe rfl rfl rfl h130 ?_
   refine Xd (o' := 1) Zk rfl rfl rfl ?_
   refine Xe rfl rfl rfl h130 ?_
   have k132 := (hN103.blk.grown0 hg128)
   refine Xi (v := .int .i64 c.run) X3 rfl (k132.cell rfl) rfl ?_
   refine Xe rfl rfl rfl h130 ?_
   refine Xn (vs := [.int .i64 c.run, .int .i64 1, .int .i64 8]) Ju (Xg rfl (Xg rfl (Xg rfl Xm))) rfl (Z0 c.run 1 8 _) ?_
   rintro _ w133 ⟨rfl, hg134⟩
   have hb135 := low0 hb129 hg134
   refine Xr (v := .bool (inR c.run 1 8)) rfl h130 rfl rfl ?_
   refine Xc (v := .bool (inR c.run 1 8)) rfl rfl ?_
   rcases Yb (inR c.run 1 8) with h136 | h136
   ·
    have hr137 := Zb.1 h136
    refine Xe rfl rfl rfl h136 ?_
    refine Xd (o' := 2) Qt rfl rfl rfl ?_
    refine Xe rfl rfl rfl h136 ?_
    have k138 := (k132.grown0 hg134)
    refine Xi (v := .int .i64 c.a) X3 rfl (k138.cell rfl) rfl ?_
    refine Xe rfl rfl rfl h136 ?_
    refine Xn (vs := [.int .i64 c.a, .int .i64 0, .int .i64 3]) Ju (Xg rfl (Xg rfl (Xg rfl Xm))) rfl (Z0 c.a 0 3 _) ?_
    rintro _ w139 ⟨rfl, hg140⟩
    have hb141 := low0 hb135 hg140
    refine Xr (v := .bool (inR c.a 0 3)) rfl h136 rfl rfl ?_
    refine Xc (v := .bool (inR c.a 0 3)) rfl rfl ?_
    rcases Yb (inR c.a 0 3) with h142 | h142
    ·
     have hr143 := Zb.1 h142
     refine Xe rfl rfl rfl h142 ?_
     refine Xd (o' := 3) W7 rfl rfl rfl ?_
     refine Xe rfl rfl rfl h142 ?_
     have k144 := (k138.grown0 hg140)
     refine Xi (v := .int .i64 c.b) X3 rfl (k144.cell rfl) rfl ?_
     refine Xe rfl rfl rfl h142 ?_
     refine Xn (vs := [.int .i64 c.b, .int .i64 0, .int .i64 3]) Ju (Xg rfl (Xg rfl (Xg rfl Xm))) rfl (Z0 c.b 0 3 _) ?_
     rintro _ w145 ⟨rfl, hg146⟩
     have hb147 := low0 hb141 hg146
     refine Xr (v := .bool (inR c.b 0 3)) rfl h142 rfl rfl ?_
     refine Xc (v := .bool (inR c.b 0 3)) rfl rfl ?_
     rcases Yb (inR c.b 0 3) with h148 | h148
     ·
      have hr149 := Zb.1 h148
      refine Xe rfl rfl rfl h148 ?_
      refine Xd (o' := 4) J9 rfl rfl rfl ?_
      refine Xe rfl rfl rfl h148 ?_
      have k150 := (k144.grown0 hg146)
      refine Xi (v := .int .i64 c.n) X3 rfl (k150.cell rfl) rfl ?_
      refine Xe rfl rfl rfl h148 ?_
      refine Xn (vs := [.int .i64 c.n, .int .i64 0, .int .i64 99]) Ju (Xg rfl (Xg rfl (Xg rfl Xm))) rfl (Z0 c.n 0 99 _) ?_
      rintro _ w151 ⟨rfl, hg152⟩
      have hb153 := low0 hb147 hg152
      refine Xr (v := .bool (inR c.n 0 99)) rfl h148 rfl rfl ?_
      refine Xh (v := .bool (inR c.n 0 99)) rfl rfl ?_
      exact Xa ⟨(congrArg Value.bool (by first | (simp only [h130, h136, h142, h148, b0, b1, b2, b3, b4, b5, b6, b7, b8, b9]; done) | simp [h130, h136, h142, h148])), (grown_trans (grown_trans (grown_trans (grown_trans hg128 hg134) hg140) hg146) hg152)⟩
     ·
      iterate 3 refine Xk rfl rfl rfl h148 rfl ?_
      refine Xl (v := .bool false) rfl h148 rfl rfl ?_
      refine Xh (v := .bool false) rfl rfl ?_
      exact Xa ⟨(congrArg Value.bool (by first | (simp only [h130, h136, h142, h148, b0, b1, b2, b3, b4, b5, b6, b7, b8, b9]; done) | simp [h130, h136, h142, h148])), (grown_trans (grown_trans (grown_trans hg128 hg134) hg140) hg146)⟩
    ·
     iterate 3 refine Xk rfl rfl rfl h142 rfl ?_
     refine Xl (v := .bool false) rfl h142 rfl rfl ?_
     refine Xc (v := .bool false) rfl rfl ?_
     iterate 3 refine Xk rfl rfl rfl rfl rfl ?_
     refine Xl (v := .bool false) rfl rfl rfl rfl ?_
     refine Xh (v := .bool false) rfl rfl ?_
     exact Xa ⟨(congrArg Value.bool (by first | (simp only [h130, h136, h142, b0, b1, b2, b3, b4, b5, b6, b7, b8, b9]; done) | simp [h130, h136, h142])), (grown_trans (grown_trans hg128 hg134) hg140)⟩
   ·
    iterate 3 refine Xk rfl rfl rfl h136 rfl ?_
    refine Xl (v := .bool false) rfl h136 rfl rfl ?_
    refine Xc (v := .bool false) rfl rfl ?_
    iterate 3 refine Xk rfl rfl rfl rfl rfl ?_
    refine Xl (v := .bool false) rfl rfl rfl rfl ?_
    refine Xc (v := .bool false) rfl rfl ?_
    iterate 3 refine Xk rfl rfl rfl rfl rfl ?_
    refine Xl (v := .bool false) rfl rfl rfl rfl ?_
    refine Xh (v := .bool false) rfl rfl ?_
    exact Xa ⟨(congrArg Value.bool (by first | (simp only [h130, h136, b0, b1, b2, b3, b4, b5, b6, b7, b8, b9]; done) | simp [h130, h136])), (grown_trans hg128 hg134)⟩
  ·
   iterate 3 refine Xk rfl rfl rfl h130 rfl ?_
   refine Xl (v := .bool false) rfl h130 rfl rfl ?_
   refine Xc (v := .bool false) rfl rfl ?_
   iterate 3 refine Xk rfl rfl rfl rfl rfl ?_
   refine Xl (v := .bool false) rfl rfl rfl rfl ?_
   refine Xc (v := .bool false) rfl rfl ?_
   iterate 3 refine Xk rfl rfl rfl rfl rfl ?_
   refine Xl (v := .bool false) rfl rfl rfl rfl ?_
   refine Xc (v := .bool false) rfl rfl ?_
   iterate 3 refine Xk rfl rfl rfl rfl rfl ?_
   refine Xl (v := .bool false) rfl rfl rfl rfl ?_
   refine Xh (v := .bool false) rfl rfl ?_
   exact Xa ⟨(congrArg Value.bool (by first | (simp only [h130, b0, b1, b2, b3, b4, b5, b6, b7, b8, b9]; done) | simp [h130])), hg128⟩
 ·
  rintro f154 w155 ⟨e156, hg157⟩
  have hb158 := low0 hb104 hg157
  refine Xs ?_
  refine ⟨.bool ((((inR c.kind 1 9 && inR c.run 1 8) && inR c.a 0 3) && inR c.b 0 3) && inR c.n 0 99), Yq rfl e156, ?_, hb158⟩
  rfl
theorem Wj (c : Cl) (w : World) : CallsR Tryd.prog 20 #[.agg #[.int .i64 c.kind, .int .i64 c.run, .int .i64 c.a, .int .i64 c.b, .int .i64 c.n]] w (fun v w' => v = .bool (callOk c) ∧ w.grownBy w' none) := by
 refine X0 (n := 26) Tryd.func20 rfl Tryd.ntmps20 rfl ?_
 have hb0 := World.grownBy.refl w none
 refine Xb ?_
 refine Yu (v := .agg #[.int .i64 c.kind, .int .i64 c.run, .int .i64 c.a, .int .i64 c.b, .int .i64 c.n]) (cs := #[.int .i64 c.kind, .int .i64 c.run, .int .i64 c.a, .int .i64 c.b, .int .i64 c.n]) rfl rfl rfl ?_
 intro B101 w102 hN103
 have hlB101 := Yf hN103 hb0
 have hb104 := low0 hb0 hN103.grw
 refine Xh (v := .bool false) rfl rfl ?_
 refine Xa ?_
 refine X2 (fun f' w' => (f' 2 = .bool ((((inR c.kind 1 9 && inR c.run 1 8) && inR c.a 0 3) && inR c.b 0 3) && inR c.n 0 99)) ∧ w102.grownBy w' none) ?_ ?_
 ·
  refine Xd (o' := 0) Zm rfl rfl rfl ?_
  refine Xi (v := .int .i64 c.kind) X3 rfl (hN103.blk.cell rfl) rfl ?_
  refine Xn (vs := [.int .i64 c.kind, .int .i64 1, .int .i64 9]) Q4 (Xg rfl (Xg rfl (Xg rfl Xm))) rfl (Qk c.kind 1 9 _) ?_
  rintro _ w127 ⟨rfl, hg128⟩
  have hb129 := low0 hb104 hg128
  refine Xc (v := .bool (inR c.kind 1 9)) rfl rfl ?_
  rcases Yb (inR c.kind 1 9) with h130 | h130
  ·
   have hr131 := Zb.1 h130
   refine Xe rfl rfl rfl h130 ?_
   refine Xd (o' := 1) Zk rfl rfl rfl ?_
   refine Xe rfl rfl rfl h130 ?_
   have k132 := (hN103.blk.grown0 hg128)
   refine Xi (v := .int .i64 c.run) X3 rfl (k132.cell rfl) rfl ?_
   refine Xe rfl rfl rfl h130 ?_
   refine Xn (vs := [.int .i64 c.run, .int .i64 1, .int .i64 8]) Q4 (Xg rfl (Xg rfl (Xg rfl Xm))) rfl (Qk c.run 1 8 _) ?_
   rintro _ w133 ⟨rfl, hg134⟩
   have hb135 := low0 hb129 hg134
   refine Xr (v := .bool (inR c.run 1 8)) rfl h130 rfl rfl ?_
   refine Xc (v := .bool (inR c.run 1 8)) rfl rfl ?_
   rcases Yb (inR c.run 1 8) with h136 | h136
   ·
    have hr137 := Zb.1 h136
    refine Xe rfl rfl rfl h136 ?_
    refine Xd (o' := 2) Qt rfl rfl rfl ?_
    refine Xe rfl rfl rfl h136 ?_
    have k138 := (k132.grown0 hg134)
    refine Xi (v := .int .i64 c.a) X3 rfl (k138.cell rfl) rfl ?_
    refine Xe rfl rfl rfl h136 ?_
    refine Xn (vs := [.int .i64 c.a, .int .i64 0, .int .i64 3]) Q4 (Xg rfl (Xg rfl (Xg rfl Xm))) rfl (Qk c.a 0 3 _) ?_
    rintro _ w139 ⟨rfl, hg140⟩
    have hb141 := low0 hb135 hg140
    refine Xr (v := .bool (inR c.a 0 3)) rfl h136 rfl rfl ?_
    refine Xc (v := .bool (inR c.a 0 3)) rfl rfl ?_
    rcases Yb (inR c.a 0 3) with h142 | h142
    ·
     have hr143 := Zb.1 h142
     refine Xe rfl rfl rfl h142 ?_
     refine Xd (o' := 3) W7 rfl rfl rfl ?_
     refine Xe rfl rfl rfl h142 ?_
     have k144 := (k138.grown0 hg140)
     refine Xi (v := .int .i64 c.b) X3 rfl (k144.cell rfl) rfl ?_
     refine Xe rfl rfl rfl h142 ?_
     refine Xn (vs := [.int .i64 c.b, .int .i64 0, .int .i64 3]) Q4 (Xg rfl (Xg rfl (Xg rfl Xm))) rfl (Qk c.b 0 3 _) ?_
     rintro _ w145 ⟨rfl, hg146⟩
     have hb147 := low0 hb141 hg146
     refine Xr (v := .bool (inR c.b 0 3)) rfl h142 rfl rfl ?_
     refine Xc (v := .bool (inR c.b 0 3)) rfl rfl ?_
     rcases Yb (inR c.b 0 3) with h148 | h148
     ·
      have hr149 := Zb.1 h148
      refine Xe rfl rfl rfl h148 ?_
      refine Xd (o' := 4) J9 rfl rfl rfl ?_
      refine Xe rfl rfl rfl h148 ?_
      have k150 := (k144.grown0 hg146)
      refine Xi (v := .int .i64 c.n) X3 rfl (k150.cell rfl) rfl ?_
      refine Xe rfl rfl rfl h148 ?_
      refine Xn (vs := [.int .i64 c.n, .int .i64 0, .int .i64 99]) Q4 (Xg rfl (Xg rfl (Xg rfl Xm))) rfl (Qk c.n 0 99 _) ?_
      rintro _ w151 ⟨rfl, hg152⟩
      have hb153 := low0 hb147 hg152
      refine Xr (v := .bool (inR c.n 0 99)) rfl h148 rfl rfl ?_
      refine Xh (v := .bool (inR c.n 0 99)) rfl rfl ?_
      exact Xa ⟨(congrArg Value.bool (by first | (simp only [h130, h136, h142, h148, b0, b1, b2, b3, b4, b5, b6, b7, b8, b9]; done) | simp [h130, h136, h142, h148])), (grown_trans (grown_trans (grown_trans (grown_trans hg128 hg134) hg140) hg146) hg152)⟩
     ·
      iterate 3 refine Xk rfl rfl rfl h148 rfl ?_
      refine Xl (v := .bool false) rfl h148 rfl rfl ?_
      refine Xh (v := .bool false) rfl rfl ?_
      exact Xa ⟨(congrArg Value.bool (by first | (simp only [h130, h136, h142, h148, b0, b1, b2, b3, b4, b5, b6, b7, b8, b9]; done) | simp [h130, h136, h142, h148])), (grown_trans (grown_trans (grown_trans hg128 hg134) hg140) hg146)⟩
    ·
     iterate 3 refine Xk rfl rfl rfl h142 rfl ?_
     refine Xl (v := .bool false) rfl h142 rfl rfl ?_
     refine Xc (v := .bool false) rfl rfl ?_
     iterate 3 refine Xk rfl rfl rfl rfl rfl ?_
     refine Xl (v := .bool false) rfl rfl rfl rfl ?_
     refine Xh (v := .bool false) rfl rfl ?_
     exact Xa ⟨(congrArg Value.bool (by first | (simp only [h130, h136, h142, b0, b1, b2, b3, b4, b5, b6, b7, b8, b9]; done) | simp [h130, h136, h142])), (grown_trans (grown_trans hg128 hg134) hg140)⟩
   ·
    iterate 3 refine Xk rfl rfl rfl h136 rfl ?_
    refine Xl (v := .bool false) rfl h136 rfl rfl ?_
    refine Xc (v := .bool false) rfl rfl ?_
    iterate 3 refine Xk rfl rfl rfl rfl rfl ?_
    refine Xl (v := .bool false) rfl rfl rfl rfl ?_
    refine Xc (v := .bool false) rfl rfl ?_
    iterate 3 refine Xk rfl rfl rfl rfl rfl ?_
    refine Xl (v := .bool false) rfl rfl rfl rfl ?_
    refine Xh (v := .bool false) rfl rfl ?_
    exact Xa ⟨(congrArg Value.bool (by first | (simp only [h130, h136, b0, b1, b2, b3, b4, b5, b6, b7, b8, b9]; done) | simp [h130, h136])), (grown_trans hg128 hg134)⟩
  ·
   iterate 3 refine Xk rfl rfl rfl h130 rfl ?_
   refine Xl (v := .bool false) rfl h130 rfl rfl ?_
   refine Xc (v := .bool false) rfl rfl ?_
   iterate 3 refine Xk rfl rfl rfl rfl rfl ?_
   refine Xl (v := .bool false) rfl rfl rfl rfl ?_
   refine Xc (v := .bool false) rfl rfl ?_
   iterate 3 refine Xk rfl rfl rfl rfl rfl ?_
   refine Xl (v := .bool false) rfl rfl rfl rfl ?_
   refine Xc (v := .bool false) rfl rfl ?_
   iterate 3 refine Xk rfl rfl rfl rfl rfl ?_
   refine Xl (v := .bool false) rfl rfl rfl rfl ?_
   refine Xh (v := .bool false) rfl rfl ?_
   exact Xa ⟨(congrArg Value.bool (by first | (simp only [h130, b0, b1, b2, b3, b4, b5, b6, b7, b8, b9]; done) | simp [h130])), hg128⟩
 ·
  rintro f154 w155 ⟨e156, hg157⟩
  have hb158 := low0 hb104 hg157
  refine Xs ?_
  refine ⟨.bool ((((inR c.kind 1 9 && inR c.run 1 8) && inR c.a 0 3) && inR c.b 0 3) && inR c.n 0 99), Yq rfl e156, ?_, hb158⟩
  rfl
theorem G6 (k : Int) (hk : -9223372036854775807 ≤ k) (w : World) (ms : List MTh) (a : Option Addr) (c : Nat) (ht : TabAt w a ms) (hlen : TabLen ms) (hn : ms.length ≤ 1048576) : CallsR Tryd.prog 23 #[.slice a ms.length c, .int .i64 k] w (fun v w' => v = .bool (kindAt (tabT ms) k 3) ∧ w.grownBy w' none) := by
 refine X0 (n := 18) Tryd.func23 rfl Tryd.ntmps23 rfl ?_
 have hb0 := World.grownBy.refl w none
 refine Xb ?_
 refine Xh (v := .bool false) rfl rfl ?_
 refine Xa ?_
 refine X2 (fun f' w' => (f' 4 = .bool (inR k 1 (ms.length : Int) && (decide ((mAt ms ((k - 1).toNat)).t.kind = 3)))) ∧ w.grownBy w' none) ?_ ?_
 ·
  refine Xc (v := .int .i64 k) rfl rfl ?_
  refine Xc (v := .slice a ms.length c) rfl rfl ?_
  refine Ym (by kernel_rfl) rfl rfl ?_
  refine Xn (vs := [.int .i64 k, .int .i64 1, .int .i64 (ms.length : Int)]) Q4 (Xg rfl (Xg rfl (Xg rfl Xm))) rfl (Qk k 1 (ms.length : Int) _) ?_
  rintro _ w116 ⟨rfl, hg117⟩
  have hb118 := low0 hb0 hg117
  refine Xc (v := .bool (inR k 1 (ms.length : Int))) rfl rfl ?_
  rcases Yb (inR k 1 (ms.length : Int)) with h119 | h119
  ·
   have hr120 := Zb.1 h119
   refine Xe rfl rfl rfl h119 ?_
   refine Xc (v := .slice a ms.length c) rfl rfl ?_
   refine Xe rfl rfl rfl h119 ?_
   refine Xc (v := .int .i64 k) rfl rfl ?_
   refine Xe rfl rfl rfl h119 ?_
   refine Y3 (c := k - 1) rfl rfl (by omega) (by omega) (by omega) rfl ?_
   refine Xe rfl rfl rfl h119 ?_
   obtain ⟨b123, q124, o125, ha126, ho127, hr128⟩ := SlAt.at (TabAt.low ht hb118).1 (Yn (Ya (show (k - 1).toNat < ms.length by omega)))
   have hle129 := TabLen.at hlen (Ya (show (k - 1).toNat < ms.length by omega))
   refine Yd Zl rfl rfl ha126 ho127 (by omega) (by omega) rfl ?_
   refine Xe rfl rfl rfl h119 ?_
   refine Xd (o' := o125) Yt rfl rfl rfl ?_
   refine Xe rfl rfl rfl h119 ?_
   refine Xi (v := .int .i64 ((mAt ms ((k - 1).toNat)).t.kind)) X3 rfl (hr128 0 _ rfl) rfl ?_
   refine Xe rfl rfl rfl h119 ?_
   refine X4 (q := decide ((mAt ms ((k - 1).toNat)).t.kind = 3)) rfl rfl rfl rfl ?_
   refine Xr (v := .bool (decide ((mAt ms ((k - 1).toNat)).t.kind = 3))) rfl h119 rfl rfl ?_
   refine Xh (v := .bool (decide ((mAt ms ((k - 1).toNat)).t.kind = 3))) rfl rfl ?_
   exact Xa ⟨(congrArg Value.bool (by first | (simp only [h119, b0, b1, b2, b3, b4, b5, b6, b7, b8, b9]; done) | simp [h119])), hg117⟩
  ·
   iterate 7 refine Xk rfl rfl rfl h119 rfl ?_
   refine Xl (v := .bool false) rfl h119 rfl rfl ?_
   refine Xh (v := .bool false) rfl rfl ?_
   exact Xa ⟨(congrArg Value.bool (by first | (simp only [h119, b0, b1, b2, b3, b4, b5, b6, b7, b8, b9]; done) | simp [h119])), hg117⟩
 ·
  rintro f130 w131 ⟨e132, hg133⟩
  have hb134 := low0 hb0 hg133
  refine Xs ?_
  refine ⟨.bool (inR k 1 (ms.length : Int) && (decide ((mAt ms ((k - 1).toNat)).t.kind = 3))), Yq rfl e132, ?_, hb134⟩
  exact congrArg Value.bool Vk
theorem H6 (q : Cl) (w : World) (ms : List MTh) (a : Option Addr) (c : Nat) (ht : TabAt w a ms) (hlen : TabLen ms) (hn : ms.length ≤ 1048576) : CallsR Tryd.prog 56 #[.slice a ms.length c, .agg #[.int .i64 q.kind, .int .i64 q.run, .int .i64 q.a, .int .i64 q.b, .int .i64 q.n]] w (fun v w' => v = .bool (callPoss (tabT ms) q) ∧ w.grownBy w' none) := by
 refine X0 (n := 17) Tryd.func56 rfl Tryd.ntmps56 rfl ?_
 have hb0 := World.grownBy.refl w none
 refine Xb ?_
 refine Yu (v := .agg #[.int .i64 q.kind, .int .i64 q.run, .int .i64 q.a, .int .i64 q.b, .int .i64 q.n]) (cs := #[.int .i64 q.kind, .int .i64 q.run, .int .i64 q.a, .int .i64 q.b, .int .i64 q.n]) rfl rfl rfl ?_
 intro B101 w102 hN103
 have hlB101 := Yf hN103 hb0
 have hb104 := low0 hb0 hN103.grw
 refine Xh (v := .bool false) rfl rfl ?_
 refine Xa ?_
 refine X2 (fun f' w' => (f' 4 = .bool ((tableOk (tabT ms) && callOk q) && kindAt (tabT ms) q.run 3)) ∧ w102.grownBy w' none) ?_ ?_
 ·
  refine Xc (v := .slice a ms.length c) rfl rfl ?_
  refine Xn (vs := [.slice a ms.length c]) Ll (Xg rfl Xm) rfl (K5  _ ms _ _ (TabAt.low ht hb104) hlen (by omega)) ?_
  rintro _ w119 ⟨rfl, hg120⟩
  have hb121 := low0 hb104 hg120
  refine Xc (v := .bool (tableOk (tabT ms))) rfl rfl ?_
  rcases Yb (tableOk (tabT ms)) with h122 | h122
  ·
   refine Xe rfl rfl rfl h122 ?_
   have k123 := (hN103.blk.grown0 hg120)
   refine Xu (vs := [.int .i64 q.kind, .int .i64 q.run, .int .i64 q.a, .int .i64 q.b, .int .i64 q.n]) Yv rfl rfl (k123.rangeL 0 5 rfl) rfl ?_
   refine Xe rfl rfl rfl h122 ?_
   refine Xn (vs := [.agg #[.int .i64 q.kind, .int .i64 q.run, .int .i64 q.a, .int .i64 q.b, .int .i64 q.n]]) Mb (Xg rfl Xm) rfl (Pr q _) ?_
   rintro _ w124 ⟨rfl, hg125⟩
   have hb126 := low0 hb121 hg125
   refine Xr (v := .bool (callOk q)) rfl h122 rfl rfl ?_
   refine Xc (v := .bool (callOk q)) rfl rfl ?_
   rcases Yb (callOk q) with h127 | h127
   ·
    have hco128 := Z2 h127
    refine Xe rfl rfl rfl h127 ?_
    refine Xc (v := .slice a ms.length c) rfl rfl ?_
    refine Xe rfl rfl rfl h127 ?_
    refine Xd (o' := 1) Zk rfl rfl rfl ?_
    refine Xe rfl rfl rfl h127 ?_
    have k129 := (k123.grown0 hg125)
    refine Xi (v := .int .i64 q.run) X3 rfl (k129.cell rfl) rfl ?_
    refine Xe rfl rfl rfl h127 ?_
    refine Xn (vs := [.slice a ms.length c, .int .i64 q.run, .int .i64 3]) Ls (Xg rfl (Xg rfl (Xg rfl Xm))) rfl (Vp q.run 3 (by omega) _ ms _ _ (TabAt.low ht hb126) hlen (by omega)) ?_
    rintro _ w130 ⟨rfl, hg131⟩
    have hb132 := low0 hb126 hg131
    refine Xr (v := .bool (kindAt (tabT ms) q.run 3)) rfl h127 rfl rfl ?_
    refine Xh (v := .bool (kindAt (tabT ms) q.run 3)) rfl rfl ?_
    exact Xa ⟨(congrArg Value.bool (by first | (simp only [h122, h127, b0, b1, b2, b3, b4, b5, b6, b7, b8, b9]; done) | simp [h122, h127])), (grown_trans (grown_trans hg120 hg125) hg131)⟩
   ·
    iterate 4 refine Xk rfl rfl rfl h127 rfl ?_
    refine Xl (v := .bool false) rfl h127 rfl rfl ?_
    refine Xh (v := .bool false) rfl rfl ?_
    exact Xa ⟨(congrArg Value.bool (by first | (simp only [h122, h127, b0, b1, b2, b3, b4, b5, b6, b7, b8, b9]; done) | simp [h122, h127])), (grown_trans hg120 hg125)⟩
  ·
   refine Xk rfl rfl rfl h122 rfl ?_
   refine Xk rfl rfl rfl h122 rfl ?_
   refine Xl (v := .bool false) rfl h122 rfl rfl ?_
   refine Xc (v := .bool false) rfl rfl ?_
   iterate 4 refine Xk rfl rfl rfl rfl rfl ?_
   refine Xl (v := .bool false) rfl rfl rfl rfl ?_
   refine Xh (v := .bool false) rfl rfl ?_
   exact Xa ⟨(congrArg Value.bool (by first | (simp only [h122, b0, b1, b2, b3, b4, b5, b6, b7, b8, b9]; done) | simp [h122])), hg120⟩
 ·
  rintro f133 w134 ⟨e135, hg136⟩
  have hb137 := low0 hb104 hg136
  refine Xs ?_
  refine ⟨.bool ((tableOk (tabT ms) && callOk q) && kindAt (tabT ms) q.run 3), Yq rfl e135, ?_, hb137⟩
  rfl
theorem Hk (q : Cl) (w : World) : CallsR Tryd.prog 12 #[.agg #[.int .i64 q.kind, .int .i64 q.run, .int .i64 q.a, .int .i64 q.b, .int .i64 q.n]] w (fun v w' => v = .agg #[.int .i64 q.kind, .int .i64 q.run, .int .i64 q.a, .int .i64 q.b, .int .i64 q.n] ∧ w.grownBy w' none) := by
 refine X0 (n := 20) Tryd.func12 rfl Tryd.ntmps12 rfl ?_
 have hb0 := World.grownBy.refl w none
 refine Xb ?_
 refine Yu (v := .agg #[.int .i64 q.kind, .int .i64 q.run, .int .i64 q.a, .int .i64 q.b, .int .i64 q.n]) (cs := #[.int .i64 q.kind, .int .i64 q.run, .int .i64 q.a, .int .i64 q.b, .int .i64 q.n]) rfl rfl rfl ?_
 intro B101 w102 hN103
 have hlB101 := Yf hN103 hb0
 have hb104 := low0 hb0 hN103.grw
 refine Yj (cs := #[.int .i64 0, .int .i64 0, .int .i64 0, .int .i64 0, .int .i64 0]) Vw rfl rfl ?_
 intro B105 w106 hN107
 have hlB105 := Yf hN107 hb104
 have lt_B101_B105 := Xq hN107 (hN103.blk).lt
 have hb108 := low0 hb104 hN107.grw
 refine Xa ?_
 refine Xb ?_
 refine Yj (cs := #[.int .i64 0, .int .i64 0, .int .i64 0, .int .i64 0, .int .i64 0]) Vw rfl rfl ?_
 intro B109 w110 hN111
 have hlB109 := Yf hN111 hb108
 have k112 := (hN103.blk.grown0 hN107.grw)
 have lt_B101_B109 := Xq hN111 (k112).lt
 have lt_B105_B109 := Xq hN111 (hN107.blk).lt
 have hb113 := low0 hb108 hN111.grw
 refine Xa ?_
 refine Xb ?_
 refine Xd (o' := 0) R1 rfl rfl rfl ?_
 have k114 := (k112.grown0 hN111.grw)
 refine Xi (v := .int .i64 q.kind) X3 rfl (k114.cell rfl) rfl ?_
 refine Xd (o' := 0) Zm rfl rfl rfl ?_
 refine Yc (v := .int .i64 q.kind) (cs' := #[.int .i64 q.kind, .int .i64 0, .int .i64 0, .int .i64 0, .int .i64 0]) X3 rfl rfl rfl hN111.blk (Nat.le_of_ble_eq_true rfl) rfl ?_
 intro w115 hS116
 have hb117 := low1 hb113 hS116.grw (by omega)
 refine Xa ?_
 refine Xb ?_
 refine Xd (o' := 1) R4 rfl rfl rfl ?_
 have k118 := (k114.grown hS116.grw (Xf (by omega)))
 refine Xi (v := .int .i64 q.run) X3 rfl (k118.cell rfl) rfl ?_
 refine Xd (o' := 1) Zk rfl rfl rfl ?_
 refine Yc (v := .int .i64 q.run) (cs' := #[.int .i64 q.kind, .int .i64 q.run, .int .i64 0, .int .i64 0, .int .i64 0]) X3 rfl rfl rfl hS116.blk (Nat.le_of_ble_eq_true rfl) rfl ?_
 intro w119 hS120
 have hb121 := low1 hb117 hS120.grw (by omega)
 refine Xa ?_
 refine Xb ?_
 refine Xd (o' := 2) Rs rfl rfl rfl ?_
 have k122 := (k118.grown hS120.grw (Xf (by omega)))
 refine Xi (v := .int .i64 q.a) X3 rfl (k122.cell rfl) rfl ?_
 refine Xd (o' := 2) Qt rfl rfl rfl ?_
 refine Yc (v := .int .i64 q.a) (cs' := #[.int .i64 q.kind, .int .i64 q.run, .int .i64 q.a, .int .i64 0, .int .i64 0]) X3 rfl rfl rfl hS120.blk (Nat.le_of_ble_eq_true rfl) rfl ?_
 intro w123 hS124
 have hb125 := low1 hb121 hS124.grw (by omega)
 refine Xa ?_
 refine Xb ?_
 refine Xd (o' := 3) St rfl rfl rfl ?_
 have k126 := (k122.grown hS124.grw (Xf (by omega)))
 refine Xi (v := .int .i64 q.b) X3 rfl (k126.cell rfl) rfl ?_
 refine Xd (o' := 3) W7 rfl rfl rfl ?_
 refine Yc (v := .int .i64 q.b) (cs' := #[.int .i64 q.kind, .int .i64 q.run, .int .i64 q.a, .int .i64 q.b, .int .i64 0]) X3 rfl rfl rfl hS124.blk (Nat.le_of_ble_eq_true rfl) rfl ?_
 intro w127 hS128
 have hb129 := low1 hb125 hS128.grw (by omega)
 refine Xa ?_
 refine Xb ?_
 refine Xd (o' := 4) R6 rfl rfl rfl ?_
 have k130 := (k126.grown hS128.grw (Xf (by omega)))
 refine Xi (v := .int .i64 q.n) X3 rfl (k130.cell rfl) rfl ?_
 refine Xd (o' := 4) J9 rfl rfl rfl ?_
 refine Yc (v := .int .i64 q.n) (cs' := #[.int .i64 q.kind, .int .i64 q.run, .int .i64 q.a, .int .i64 q.b, .int .i64 q.n]) X3 rfl rfl rfl hS128.blk (Nat.le_of_ble_eq_true rfl) rfl ?_
 intro w131 hS132
 have hb133 := low1 hb129 hS132.grw (by omega)
 refine Xa ?_
 refine Xb ?_
 refine Xu (vs := [.int .i64 q.kind, .int .i64 q.run, .int .i64 q.a, .int .i64 q.b, .int .i64 q.n]) Yv rfl rfl (hS132.blk.rangeL 0 5 rfl) rfl ?_
 have k134 := ((((((hN107.blk.grown0 hN111.grw).grown hS116.grw (Xf (by omega))).grown hS120.grw (Xf (by omega))).grown hS124.grw (Xf (by omega))).grown hS128.grw (Xf (by omega))).grown hS132.grw (Xf (by omega)))
 refine Xz (vs := [.int .i64 q.kind, .int .i64 q.run, .int .i64 q.a, .int .i64 q.b, .int .i64 q.n]) (cs' := #[.int .i64 q.kind, .int .i64 q.run, .int .i64 q.a, .int .i64 q.b, .int .i64 q.n]) Yv rfl rfl rfl (by simp [Value.oneCell']) k134 (Nat.le_of_ble_eq_true rfl) rfl ?_
 intro w135 hS136
 have hb137 := low1 hb133 hS136.grw (by omega)
 refine Xa ?_
 refine Xs ?_
 refine ⟨.agg #[.int .i64 q.kind, .int .i64 q.run, .int .i64 q.a, .int .i64 q.b, .int .i64 q.n], Zx rfl (Yh (vs := [.int .i64 q.kind, .int .i64 q.run, .int .i64 q.a, .int .i64 q.b, .int .i64 q.n]) Yv rfl rfl (hS136.blk.rangeL 0 5 rfl)), ?_, hb137⟩
 rfl
end Go.Proofs.YtfoplmgoiblkgaaDoor
end
section
namespace Go.Dw
def RB (r : Rt) : Prop := -1 ≤ r.th ∧ r.th ≤ 9 ∧ -1 ≤ r.ve ∧ r.ve ≤ 9
structure RowD (TR TI lo : Nat) (w : World) (m : MTh) : Prop where
  q : OwnN lo w m.qa TI 1 m.qc m.t.queue.length (m.t.queue.flatMap icell)
  s : ∃ xs : List Rt, OwnN lo w m.sa TR 5 m.sc m.t.slots.length (xs.flatMap Rt.cells) ∧ xs.length = m.t.slots.length ∧ ∀ x ∈ xs, RB x
  ql : m.t.queue.length ≤ 3
  sl : m.t.slots.length ≤ 4
  ve : 0 ≤ m.t.ve ∧ m.t.ve ≤ 1
def RowsD (TR TI lo : Nat) (w : World) (ms : List MTh) : Prop := ∀ m ∈ ms, RowD TR TI lo w m
theorem Hs {w : World} {B C : Nat} {T U : TypeId} {sz sz' cap cap' n n' : Nat} {vs us : List Value} (h : Own w B T sz cap n vs) (k : Own w C U sz' cap' n' us) (hT : T ≠ U) : B ≠ C := fun e => by
  subst e
  obtain ⟨_, c1, h1, _⟩ := h.blk
  obtain ⟨_, c2, h2, _⟩ := k.blk
  have : some (Obj.cells c1 T (0, 0)) = some (Obj.cells c2 U (0, 0)) := h1.symm.trans h2
  simp only [Option.some.injEq, Obj.cells.injEq] at this
  exact hT this.2.1
theorem OwnN.typ {lo : Nat} {w w' : World} {a : Option Addr} {T U : TypeId} {sz sz' cap cap' n n' B : Nat} {vs us : List Value} (h : OwnN lo w a T sz cap n vs) (hg : w.grownBy w' (some B)) (k : Own w B U sz' cap' n' us) (hT : T ≠ U) : OwnN lo w' a T sz cap n vs := by
  rcases h.form with ⟨rfl, rfl, rfl, rfl⟩ | ⟨C, rfl, h2, _, h3⟩
  · exact OwnN.nil
  · exact OwnN.of (h3.grown hg (Xf (Hs h3 k hT))) h2
section
variable {TR TI lo : Nat} {w w' : World} {m : MTh} {ms : List MTh}
theorem RowD.low (h : RowD TR TI lo w m) (hg : w.grownBy w' none) : RowD TR TI lo w' m :=
  ⟨h.q.grown0 hg, let ⟨xs, h1, h2⟩ := h.s; ⟨xs, h1.grown0 hg, h2⟩, h.ql, h.sl, h.ve⟩
theorem RowD.lt {R : Nat} (h : RowD TR TI lo w m) (hg : w.grownBy w' (some R)) (hR : R < lo) : RowD TR TI lo w' m :=
  ⟨h.q.grown_lt hg hR, let ⟨xs, h1, h2⟩ := h.s; ⟨xs, h1.grown_lt hg hR, h2⟩, h.ql, h.sl, h.ve⟩
theorem RowD.typ {B U sz cap n : Nat} {us : List Value} (h : RowD TR TI lo w m) (hg : w.grownBy w' (some B)) (k : Own w B U sz cap n us) (h1 : TR ≠ U) (h2 : TI ≠ U) : RowD TR TI lo w' m :=
  ⟨h.q.typ hg k h2, let ⟨xs, h3, h4⟩ := h.s; ⟨xs, h3.typ hg k h1, h4⟩, h.ql, h.sl, h.ve⟩
theorem RowD.mono {lo' : Nat} (h : RowD TR TI lo w m) (hl : lo' ≤ lo) : RowD TR TI lo' w m :=
  ⟨h.q.mono hl, let ⟨xs, h1, h2⟩ := h.s; ⟨xs, h1.mono hl, h2⟩, h.ql, h.sl, h.ve⟩
theorem RowsD.low (h : RowsD TR TI lo w ms) (hg : w.grownBy w' none) : RowsD TR TI lo w' ms := fun m hm => (h m hm).low hg
theorem RowsD.lt {R : Nat} (h : RowsD TR TI lo w ms) (hg : w.grownBy w' (some R)) (hR : R < lo) : RowsD TR TI lo w' ms := fun m hm => (h m hm).lt hg hR
theorem RowsD.typ {B U sz cap n : Nat} {us : List Value} (h : RowsD TR TI lo w ms) (hg : w.grownBy w' (some B)) (k : Own w B U sz cap n us) (h1 : TR ≠ U) (h2 : TI ≠ U) : RowsD TR TI lo w' ms := fun m hm => (h m hm).typ hg k h1 h2
theorem RowsD.ge {b hi : Nat} (h : RowsD TR TI lo w ms) (hg : w.grownBy w' (some b)) (hH : ∀ m ∈ ms, ∀ c, (m.sa = some ⟨c, 0, none⟩ ∨ m.qa = some ⟨c, 0, none⟩) → c < hi) (hb : hi ≤ b) : RowsD TR TI lo w' ms := fun m hm =>
  ⟨(h m hm).q.grown hg (fun B e => Xf (by have := hH m hm B (Or.inr e); omega)), let ⟨xs, h1, h2⟩ := (h m hm).s; ⟨xs, h1.grown hg (fun B e => Xf (by have := hH m hm B (Or.inl e); omega)), h2⟩, (h m hm).ql, (h m hm).sl, (h m hm).ve⟩
theorem RowsD.hi (h : RowsD TR TI lo w ms) : ∀ m ∈ ms, ∀ c, (m.sa = some ⟨c, 0, none⟩ ∨ m.qa = some ⟨c, 0, none⟩) → c < w.heap.size := fun m hm c hc => by
  rcases hc with e | e
  · obtain ⟨xs, h1, _⟩ := (h m hm).s
    rcases h1.form with ⟨e2, _⟩ | ⟨B, e2, _, h3, _⟩
    · rw [e2] at e; cases e
    · rw [e2] at e
      simp only [Option.some.injEq, Addr.mk.injEq, and_true] at e
      omega
  · rcases (h m hm).q.form with ⟨e2, _⟩ | ⟨B, e2, _, h3, _⟩
    · rw [e2] at e; cases e
    · rw [e2] at e
      simp only [Option.some.injEq, Addr.mk.injEq, and_true] at e
      omega
theorem RowsD.snoc (h : RowsD TR TI lo w ms) (hm : RowD TR TI lo w m) : RowsD TR TI lo w (ms ++ [m]) := fun x hx => by
  rcases List.mem_append.1 hx with h1 | h1
  · exact h x h1
  · simp at h1; subst h1; exact hm
theorem RowsD.nil : RowsD TR TI lo w [] := fun x hx => by simp at hx
theorem RowsD.at (h : RowsD TR TI lo w ms) {i : Nat} (hi : i < ms.length) : RowD TR TI lo w (mAt ms i) := h _ (List.mem_of_getElem? (Ya hi))
theorem RowsD.setk (h : RowsD TR TI lo w ms) {i : Nat} (hi : i < ms.length) {m' : MTh} (hq : m'.qa = (mAt ms i).qa ∧ m'.qc = (mAt ms i).qc ∧ m'.t.queue = (mAt ms i).t.queue) (hs : m'.sa = (mAt ms i).sa ∧ m'.sc = (mAt ms i).sc ∧ m'.t.slots = (mAt ms i).t.slots) (hv : m'.t.ve = (mAt ms i).t.ve) : RowsD TR TI lo w (ms.set i m') := fun x hx => by
  rcases List.mem_or_eq_of_mem_set hx with h1 | rfl
  · exact h x h1
  · have h0 := h.at hi
    obtain ⟨h1, h2, h3⟩ := hq
    obtain ⟨h4, h5, h6⟩ := hs
    refine ⟨?_, ?_, ?_, ?_, ?_⟩
    · rw [h1, h2, h3]; exact h0.q
    · rw [h4, h5, h6]; exact h0.s
    · rw [h3]; exact h0.ql
    · rw [h6]; exact h0.sl
    · rw [hv]; exact h0.ve
theorem RowD.slot (h : RowD TR TI lo w m) (hs : 0 < m.t.slots.length) : ∃ (S : Nat) (xs : List Rt), m.sa = some ⟨S, 0, none⟩ ∧ lo ≤ S ∧ Own w S TR 5 m.sc xs.length (xs.flatMap Rt.cells) ∧ xs.length = m.t.slots.length := by
  obtain ⟨xs, h1, h2, h3⟩ := h.s
  obtain ⟨S, ha, hl, ho⟩ := h1.some_ hs
  exact ⟨S, xs, ha, hl, by rw [h2]; exact ho, h2⟩
def PutR (T : TypeId) (S k : Nat) (x : Rt) (w w' : World) : Prop := ∀ cap n (ys : List Rt), Own w S T 5 cap n (ys.flatMap Rt.cells) → Own w' S T 5 cap n ((ys.set k x).flatMap Rt.cells)
theorem RowD.put {S k : Nat} {x : Rt} (h : RowD TR TI lo w m) (hp : PutR TR S k x w w') (hg : w.grownBy w' (some S)) (hx : RB x) {cap n : Nat} {us : List Value} (ho : Own w S TR 5 cap n us) (hT : TI ≠ TR) : RowD TR TI lo w' m := by
  refine ⟨h.q.typ hg ho hT, ?_, h.ql, h.sl, h.ve⟩
  obtain ⟨xs, h1, h2, h3⟩ := h.s
  rcases h1.form with ⟨e1, e2, e3, e4⟩ | ⟨C, e1, e2, e3, e4⟩
  · refine ⟨xs, ?_, h2, h3⟩
    rw [e1, e2, e3, e4]
    exact OwnN.nil
  · by_cases hC : C = S
    · subst hC
      refine ⟨xs.set k x, ?_, by rw [List.length_set, h2], fun y hy => ?_⟩
      · rw [e1]; exact OwnN.of (hp _ _ _ e4) e2
      · rcases List.mem_or_eq_of_mem_set hy with h4 | rfl
        · exact h3 y h4
        · exact hx
    · refine ⟨xs, ?_, h2, h3⟩
      rw [e1]
      exact OwnN.of (e4.grown hg (Xf hC)) e2
theorem RowsD.put {S k : Nat} {x : Rt} (h : RowsD TR TI lo w ms) (hp : PutR TR S k x w w') (hg : w.grownBy w' (some S)) (hx : RB x) {cap n : Nat} {us : List Value} (ho : Own w S TR 5 cap n us) (hT : TI ≠ TR) : RowsD TR TI lo w' ms :=
  fun m hm => (h m hm).put hp hg hx ho hT
end
theorem Rw {cur : List Value} {o m : Nat} {us : List Value} (ho : m ≤ o) (hc : o + us.length ≤ cur.length) : (cur.take o ++ us ++ cur.drop (o + us.length)).take m = cur.take m := by
  rw [List.append_assoc, List.take_append, List.take_take, Nat.min_eq_left ho, List.length_take, Nat.min_eq_left (by omega), show m - o = 0 by omega, List.take_zero, List.append_nil]
section
variable {P : Program} {n : Nat} {ops : Array Oper} {K : Fr → World → Prop} {l : List Oper} {f : Fr} {w : World} {ty : TypeId} {pos : String} {aft : Array Edge} {d : Nat}
theorem Uo {t b o cap k : Nat} {T : TypeId} {x y : Operand} {ys : List Rt} {z' : Rt} (ht : rowTy P t = some 5) (hx : ev f x = .pointer (some ⟨b, o, none⟩)) (hy : ev f y = .agg z'.cells.toArray)
    (ho : Own w b T 5 cap ys.length (ys.flatMap Rt.cells)) (hk : k < ys.length) (e : o = k * 5)
    (h : ∀ w', PutR T b k z' w w' → w.grownBy w' (some b) → WpO P n ops K l f w') : WpO P n ops K (⟨none, .store t x y, ty, pos, aft, none⟩ :: l) f w := by
  obtain ⟨hl, cur, hb, h2, h3, h4, h5⟩ := ho.blk
  have hlt : k * 5 + 5 ≤ ys.length * 5 := by omega
  have hin : k * 5 + 5 ≤ cur.size := by rw [h4]; omega
  have hsz : cur.toList.length = cap * 5 := by rw [Array.length_toList]; exact h4
  have hz : (Rt.cells z').length = 5 := rfl
  subst e
  refine Vi (w' := w.setRow b (cur.toList.take (k * 5) ++ Rt.cells z' ++ cur.toList.drop (k * 5 + 5)).toArray) rfl rfl (by simp only [execOp, hx, hy, Sem.run_bind, Un ht (Zw z') (Sj z') hb hin, Result.andThen_ok]; rfl) (h _ ?_ (setB_setRow hb _).grw)
  intro cap' n' ys' ho'
  obtain ⟨hl', cur', hb', h2', h3', h4', h5'⟩ := ho'.blk
  have ec : cur' = cur := by
    have : some (Obj.cells cur' T (0, 0)) = some (Obj.cells cur T (0, 0)) := hb'.symm.trans hb
    simpa using this
  subst ec
  have hn' : ys'.length = n' := by
    rw [Qe Zw] at hl'
    omega
  refine Own.ofBlk ?_ (setB_setRow hb _).blk h2' h3' ?_ ?_
  · rw [Qe Zw, List.length_set, hn']
  · rw [List.size_toArray, List.length_append, List.length_append, List.length_take, List.length_drop, hz, hsz, Nat.min_eq_left (by omega)]
    omega
  · have ecap : cap' * 5 = cap * 5 := h4'.symm.trans h4
    by_cases hkn : k < n'
    · have hset := congrArg Array.toList (Vt Zw (ys := ys') (k := k) (by omega) z')
      have hq := Pe (cur := cur'.toList) (us := Rt.cells z') (o := k * 5) h5' (by omega) (by rw [hz]; omega)
      rw [hz] at hq
      rw [hq]
      simpa using hset
    · have hq := Rw (cur := cur'.toList) (us := Rt.cells z') (o := k * 5) (m := n' * 5) (by omega) (by rw [hz]; omega)
      rw [hz] at hq
      rw [List.toList_toArray, hq, h5', List.set_eq_of_length_le (by omega)]
end
def SlG (lo : Nat) (w : World) (a : Option Addr) (sz : Nat) (xs : List (List Value)) : Prop := ∀ k x, xs[k]? = some x → ∃ b o, a = some ⟨b, o, none⟩ ∧ lo ≤ b ∧ w.rangeAt b (o + k * sz) x
section
variable {lo : Nat} {w w' : World} {a : Option Addr} {sz : Nat} {xs : List (List Value)}
theorem SlG.sl (h : SlG lo w a sz xs) : SlAt w a sz xs := fun k x hk => by
  obtain ⟨b, o, ha, _, hr⟩ := h k x hk
  exact ⟨b, o, ha, hr⟩
theorem SlG.low (h : SlG lo w a sz xs) (hg : w.grownBy w' none) : SlG lo w' a sz xs := fun k x hk => by
  obtain ⟨b, o, ha, hb, hr⟩ := h k x hk
  exact ⟨b, o, ha, hb, Z7 hr hg (by simp)⟩
theorem SlG.lt {R : Nat} (h : SlG lo w a sz xs) (hg : w.grownBy w' (some R)) (hR : R < lo) : SlG lo w' a sz xs := fun k x hk => by
  obtain ⟨b, o, ha, hb, hr⟩ := h k x hk
  exact ⟨b, o, ha, hb, Z7 hr hg (Xf (by omega))⟩
theorem SlG.mono {lo' : Nat} (h : SlG lo w a sz xs) (hl : lo' ≤ lo) : SlG lo' w a sz xs := fun k x hk => by
  obtain ⟨b, o, ha, hb, hr⟩ := h k x hk
  exact ⟨b, o, ha, Nat.le_trans hl hb, hr⟩
theorem SlG.own {α : Type} {g : α → List Value} (hg : Wide g sz) {ys : List α} {B cap n : Nat} {T : TypeId} (h : Own w B T sz cap n (ys.flatMap g)) (hB : lo ≤ B) : SlG lo w (some ⟨B, 0, none⟩) sz (ys.map g) := fun k x hk => by
  obtain ⟨b, o, ha, hr⟩ := Own.sl hg h k x hk
  simp only [Option.some.injEq, Addr.mk.injEq] at ha
  obtain ⟨rfl, rfl, _⟩ := ha
  exact ⟨_, _, rfl, hB, hr⟩
theorem SlG.ownN {α : Type} {g : α → List Value} (hg : Wide g sz) (h0 : 0 < sz) {ys : List α} {cap n : Nat} {T : TypeId} (h : OwnN lo w a T sz cap n (ys.flatMap g)) : SlG lo w a sz (ys.map g) := fun k x hk => by
  obtain ⟨b, o, ha, hr⟩ := OwnN.sl hg h0 h k x hk
  refine ⟨b, o, ha, ?_, hr⟩
  rcases h.form with ⟨h2, _⟩ | ⟨B, h2, h3, _⟩
  · rw [h2] at ha; cases ha
  · rw [h2] at ha
    simp only [Option.some.injEq, Addr.mk.injEq] at ha
    omega
end
def ThG (lo : Nat) (w : World) (m : MTh) : Prop := SlG lo w m.sa 5 (m.t.slots.map Rt.cells) ∧ SlG lo w m.qa 1 (m.t.queue.map icell) ∧ (m.sa = none → m.sc = 0) ∧ (m.qa = none → m.qc = 0)
def TabG (lo : Nat) (w : World) (a : Option Addr) (ms : List MTh) : Prop := SlG lo w a 8 (ms.map MTh.cells) ∧ ∀ m ∈ ms, ThG lo w m
section
variable {lo : Nat} {w w' : World} {a : Option Addr} {m : MTh} {ms : List MTh}
theorem TabG.at (h : TabG lo w a ms) : TabAt w a ms := ⟨h.1.sl, fun m hm => ⟨(h.2 m hm).1.sl, (h.2 m hm).2.1.sl, (h.2 m hm).2.2⟩⟩
theorem TabG.low (h : TabG lo w a ms) (hg : w.grownBy w' none) : TabG lo w' a ms := ⟨h.1.low hg, fun m hm => ⟨(h.2 m hm).1.low hg, (h.2 m hm).2.1.low hg, (h.2 m hm).2.2⟩⟩
theorem TabG.lt {R : Nat} (h : TabG lo w a ms) (hg : w.grownBy w' (some R)) (hR : R < lo) : TabG lo w' a ms := ⟨h.1.lt hg hR, fun m hm => ⟨(h.2 m hm).1.lt hg hR, (h.2 m hm).2.1.lt hg hR, (h.2 m hm).2.2⟩⟩
theorem TabG.mono {lo' : Nat} (h : TabG lo w a ms) (hl : lo' ≤ lo) : TabG lo' w a ms := ⟨h.1.mono hl, fun m hm => ⟨(h.2 m hm).1.mono hl, (h.2 m hm).2.1.mono hl, (h.2 m hm).2.2⟩⟩
end
def TabHi (hi : Nat) (a : Option Addr) (ms : List MTh) : Prop := (∀ b o, a = some ⟨b, o, none⟩ → 0 < ms.length → b < hi) ∧ ∀ m ∈ ms, (∀ b o, m.sa = some ⟨b, o, none⟩ → 0 < m.t.slots.length → b < hi) ∧ ∀ b o, m.qa = some ⟨b, o, none⟩ → 0 < m.t.queue.length → b < hi
theorem Pm {α : Type} {g : α → List Value} {sz lo : Nat} (hg : Wide g sz) (h0 : 0 < sz) {w : World} {a : Option Addr} {ys : List α} (h : SlG lo w a sz (ys.map g)) : ∀ b o, a = some ⟨b, o, none⟩ → 0 < ys.length → b < w.heap.size := fun b o ha hn => by
  obtain ⟨y, hy⟩ := Zf hn
  obtain ⟨b', o', ha', _, hr⟩ := h 0 (g y) (Yn hy)
  rw [ha] at ha'
  simp only [Option.some.injEq, Addr.mk.injEq] at ha'
  obtain ⟨rfl, rfl, _⟩ := ha'
  obtain ⟨v, hv⟩ : ∃ v, (g y)[0]? = some v := ⟨_, List.getElem?_eq_getElem (by rw [hg y]; exact h0)⟩
  exact World.block_lt_of_cell? w _ (hr 0 v hv)
theorem TabG.hi {lo : Nat} {w : World} {a : Option Addr} {ms : List MTh} (h : TabG lo w a ms) : TabHi w.heap.size a ms :=
  ⟨Pm Zy (by omega) h.1, fun m hm => ⟨Pm Zw (by omega) (h.2 m hm).1, Pm Ys (by omega) (h.2 m hm).2.1⟩⟩
theorem SlG.ge {α : Type} {g : α → List Value} {sz lo hi b : Nat} {w w' : World} {a : Option Addr} {ys : List α} (h : SlG lo w a sz (ys.map g)) (hg : w.grownBy w' (some b)) (hH : ∀ c o, a = some ⟨c, o, none⟩ → 0 < ys.length → c < hi) (hb : hi ≤ b) : SlG lo w' a sz (ys.map g) := fun k x hk => by
  obtain ⟨c, o, ha, hc, hr⟩ := h k x hk
  have hn : 0 < ys.length := by
    have := (List.getElem?_eq_some_iff.1 hk).1
    rw [List.length_map] at this
    omega
  have := hH c o ha hn
  exact ⟨c, o, ha, hc, Z7 hr hg (Xf (by omega))⟩
theorem TabG.ge {lo hi b : Nat} {w w' : World} {a : Option Addr} {ms : List MTh} (h : TabG lo w a ms) (hg : w.grownBy w' (some b)) (hH : TabHi hi a ms) (hb : hi ≤ b) : TabG lo w' a ms :=
  ⟨h.1.ge hg hH.1 hb, fun m hm => ⟨(h.2 m hm).1.ge hg (hH.2 m hm).1 hb, (h.2 m hm).2.1.ge hg (hH.2 m hm).2 hb, (h.2 m hm).2.2⟩⟩
def Small (ms : List MTh) : Prop := ∀ m ∈ ms, m.t.slots.length ≤ 4 ∧ m.t.queue.length ≤ 3
theorem Small.len {ms : List MTh} (h : Small ms) : TabLen ms := fun m hm => ⟨by have := h m hm; omega, by have := h m hm; omega⟩
theorem RowsD.tab {TR TI lo : Nat} {w : World} : ∀ (ms : List MTh), RowsD TR TI lo w ms → ∃ ms' : List MTh, ms'.map MTh.cells = ms.map MTh.cells ∧ (∀ m ∈ ms', ThG lo w m) ∧ Small ms'
  | [], _ => ⟨[], rfl, fun m hm => by simp at hm, fun m hm => by simp at hm⟩
  | m :: ms, h => by
    obtain ⟨ms', h1, h2, h5⟩ := RowsD.tab ms fun x hx => h x (List.mem_cons_of_mem _ hx)
    have hm := h m (List.mem_cons_self ..)
    obtain ⟨xs, h3, h4, _⟩ := hm.s
    refine ⟨⟨{ m.t with slots := xs }, m.sa, m.sc, m.qa, m.qc⟩ :: ms', ?_, ?_, ?_⟩
    · rw [List.map_cons, List.map_cons, h1]
      simp only [MTh.cells, h4]
    · intro x hx
      rcases List.mem_cons.1 hx with rfl | hx
      · exact ⟨SlG.ownN Zw (by omega) h3, SlG.ownN Ys (by omega) hm.q, fun e => h3.cap0 e, fun e => hm.q.cap0 e⟩
      · exact h2 x hx
    · intro x hx
      rcases List.mem_cons.1 hx with rfl | hx
      · refine ⟨?_, hm.ql⟩
        show xs.length ≤ 4
        rw [h4]; exact hm.sl
      · exact h5 x hx
theorem Gz {ms ms' : List MTh} (h : ms'.map MTh.cells = ms.map MTh.cells) : ms'.flatMap MTh.cells = ms.flatMap MTh.cells := by
  rw [List.flatMap_def, List.flatMap_def, h]
end Go.Dw
end
section
namespace Go.Proofs.YtfoplmgoiblkgaaDoor
open Go.RowKit Go.Dw
set_option maxRecDepth 100000
set_option maxHeartbeats 4000000
set_option linter.unusedSimpArgs false
set_option linter.unusedVariables false
theorem Pn : goFn Tryd.prog 19 = true := by kernel_rfl
theorem S8 : goFn Tryd.prog 62 = true := by kernel_rfl
theorem T3 : goFn Tryd.prog 79 = true := by kernel_rfl
theorem M5 : goFn Tryd.prog 80 = true := by kernel_rfl
theorem V3 : goFn Tryd.prog 91 = true := by kernel_rfl
theorem Mn : goFn Tryd.prog 92 = true := by kernel_rfl
theorem Hu (k to : Int) (p : Int) (hp : 0 ≤ p ∧ p ≤ 1000000000000) (lo R : Nat) (bs : List Int) (a : Option Addr) (c : Nat) (w : World) (hR : Blk w R 108 #[.slice a bs.length c, .int .i64 p]) (hlo : lo ≤ R) (hs : SlLt lo w a 1 (bs.map bcell)) (hb : ∀ b ∈ bs, 0 ≤ b ∧ b ≤ 255) (hn : bs.length ≤ 1048576) : CallsR Tryd.prog 79 #[.pointer (some ⟨R, 0, none⟩), .int .i64 k, .int .i64 to] w (fun v w' => ∃ (m : MTh) (p' : Int), v = .agg #[.int .i64 m.t.kind, .int .i64 m.t.lab.s, .int .i64 m.t.lab.v, .int .i64 m.t.ve, .int .i64 m.t.num, .slice m.sa m.t.slots.length m.sc, .slice m.qa m.t.queue.length m.qc, .int .i64 m.t.to] ∧ RowD 37 3 w.heap.size w' m ∧ p ≤ p' ∧ p' ≤ p + 12 ∧ Blk w' R 108 #[.slice a bs.length c, .int .i64 p'] ∧ w.grownBy w' (some R)) := by
 refine X0 (n := 59) Tryd.func79 rfl Tryd.ntmps79 rfl ?_
 have hb0 := World.grownBy.refl w (some R)
 have hRlt := hR.lt
 refine Xb ?_
 refine Yj (cs := #[.int .i64 0, .int .i64 0, .int .i64 0, .int .i64 0, .int .i64 0, .slice none 0 0, .slice none 0 0, .int .i64 0]) Jn rfl rfl ?_
 intro B101 w102 hN103
 have hlB101 := Yf hN103 hb0
 have lt_R_B101 := Xq hN103 (hR).lt
 have hb104 := low0 hb0 hN103.grw
 refine Xa ?_
 refine Xb ?_
 refine Xc (v := .int .i64 k) rfl rfl ?_
 refine Xc (v := .pointer (some ⟨R, 0, none⟩)) rfl rfl ?_
 have k105 := (hR.grown0 hN103.grw)
 refine Xn (vs := [.pointer (some ⟨R, 0, none⟩)]) Mn (Xg rfl Xm) rfl (H5 p (by omega) _ R bs _ _ _ k105 (by omega) (SlLt.low1 hs hb104 hlo) (by first | exact hb | exact fun b h => hb b (List.mem_of_mem_take h)) (by first | omega | (rw [List.length_take]; omega))) ?_
 rintro _ w116 ⟨l106, p107, rfl, hr108, hr109, hr110, hr111, hp112, hp113, kR114, hg115⟩
 have hb117 := grown_trans hb104 hg115
 refine Xc (v := .int .i64 to) rfl rfl ?_
 rcases Yb ((decide (k = 2)) || (decide (k = 3))) with h118 | h118
 ·
  rcases Yb (newOk k l106 to) with h119 | h119
  ·
   have k120 := (hN103.blk.grown hg115 (Xf (by omega)))
   have h121 : thingOk (⟨k, l106, 0, 0, zeros4, [], to⟩ : Th) = true := (V6 h118).symm.trans h119
   refine Xn (vs := [.int .i64 k, .agg #[.int .i64 l106.s, .int .i64 l106.v], .int .i64 to]) V3 (Xg rfl (Xg rfl (Xg rfl Xm))) rfl (W9 k to l106 h118 h119 _) ?_
   rintro _ w122 ⟨B124, cap125, B128, cap129, rfl, hge126, hO127, hge130, hO131, ne_B124_B128, hg123⟩
   have hb132 := low0 hb117 hg123
   have hlB124 := Nat.le_trans hb117.size hge126
   have lt_R_B124 := Nat.lt_of_lt_of_le (kR114).lt hge126
   have lt_B101_B124 := Nat.lt_of_lt_of_le (k120).lt hge126
   have hlB128 := Nat.le_trans hb117.size hge130
   have lt_R_B128 := Nat.lt_of_lt_of_le (kR114).lt hge130
   have lt_B101_B128 := Nat.lt_of_lt_of_le (k120).lt hge130
   refine Xc (v := .tuple #[.agg #[.int .i64 k, .int .i64 l106.s, .int .i64 l106.v, .int .i64 0, .int .i64 0, .slice (some ⟨B124, 0, none⟩) 4 cap125, .slice (some ⟨B128, 0, none⟩) 0 cap129, .int .i64 to], .bool true]) rfl rfl ?_
   refine Yz (v := .agg #[.int .i64 k, .int .i64 l106.s, .int .i64 l106.v, .int .i64 0, .int .i64 0, .slice (some ⟨B124, 0, none⟩) 4 cap125, .slice (some ⟨B128, 0, none⟩) 0 cap129, .int .i64 to]) rfl rfl rfl ?_
   refine Yz (v := .bool true) rfl rfl rfl ?_
   refine Yj (cs := #[.int .i64 0, .int .i64 0, .int .i64 0, .int .i64 0, .int .i64 0, .slice none 0 0, .slice none 0 0, .int .i64 0]) Jn rfl rfl ?_
   intro B133 w134 hN135
   have hlB133 := Yf hN135 hb132
   have k136 := (kR114.grown0 hg123)
   have lt_R_B133 := Xq hN135 (k136).lt
   have k137 := (k120.grown0 hg123)
   have lt_B101_B133 := Xq hN135 (k137).lt
   have lt_B128_B133 := Xq hN135 (hO131).lt
   have lt_B124_B133 := Xq hN135 (hO127).lt
   have hb138 := low0 hb132 hN135.grw
   refine Xz (vs := [.int .i64 k, .int .i64 l106.s, .int .i64 l106.v, .int .i64 0, .int .i64 0, .slice (some ⟨B124, 0, none⟩) 4 cap125, .slice (some ⟨B128, 0, none⟩) 0 cap129, .int .i64 to]) (cs' := #[.int .i64 k, .int .i64 l106.s, .int .i64 l106.v, .int .i64 0, .int .i64 0, .slice (some ⟨B124, 0, none⟩) 4 cap125, .slice (some ⟨B128, 0, none⟩) 0 cap129, .int .i64 to]) Y0 rfl rfl rfl (by simp [Value.oneCell']) hN135.blk (Nat.le_of_ble_eq_true rfl) rfl ?_
   intro w139 hS140
   have hb141 := low1 hb138 hS140.grw (by omega)
   refine Xh (v := .bool true) rfl rfl ?_
   refine Xa ?_
   refine Xt ?_
   refine Xb ?_
   refine Xd (o' := 0) Yt rfl rfl rfl ?_
   refine Xi (v := .int .i64 k) X3 rfl (hS140.blk.cell rfl) rfl ?_
   refine X4 (q := decide (k = 0)) rfl rfl rfl rfl ?_
   refine Xa ?_
   refine Xw rfl (fun h142 => ?_) (fun h142 => ?_)
   ·
    have h143 := of_decide_eq_true h142
    refine X1 ?_
    refine Yw (ps := []) (v := .agg #[.int .i64 0, .int .i64 0]) X9 (by kernel_rfl) rfl ?_
    have k144 := ((k136.grown0 hN135.grw).grown hS140.grw (Xf (by omega)))
    have k145 := ((k137.grown0 hN135.grw).grown hS140.grw (Xf (by omega)))
    have k146 := ((hO131.grown0 hN135.grw).grown hS140.grw (Xf (by omega)))
    have k147 := ((hO127.grown0 hN135.grw).grown hS140.grw (Xf (by omega)))
    have h148 : thingOk (⟨1, ⟨0, 0⟩, 0, 0, [], [], 0⟩ : Th) = true := (Kb (by decide)).symm.trans (by decide)
    refine Xn (vs := [.int .i64 1, .agg #[.int .i64 0, .int .i64 0], .int .i64 0]) V3 (Xg rfl (Xg rfl (Xg rfl Xm))) rfl (Q9 1 0 ⟨0, 0⟩ (by decide) (by decide) _) ?_
    rintro _ w149 ⟨B151, cap152, B155, cap156, rfl, hge153, hO154, hge157, hO158, ne_B151_B155, hg150⟩
    have hb159 := low0 hb141 hg150
    have hlB151 := Nat.le_trans hb141.size hge153
    have lt_R_B151 := Nat.lt_of_lt_of_le (k144).lt hge153
    have lt_B101_B151 := Nat.lt_of_lt_of_le (k145).lt hge153
    have lt_B128_B151 := Nat.lt_of_lt_of_le (k146).lt hge153
    have lt_B124_B151 := Nat.lt_of_lt_of_le (k147).lt hge153
    have lt_B133_B151 := Nat.lt_of_lt_of_le (hS140.blk).lt hge153
    have hlB155 := Nat.le_trans hb141.size hge157
    have lt_R_B155 := Nat.lt_of_lt_of_le (k144).lt hge157
    have lt_B101_B155 := Nat.lt_of_lt_of_le (k145).lt hge157
    have lt_B128_B155 := Nat.lt_of_lt_of_le (k146).lt hge157
    have lt_B124_B155 := Nat.lt_of_lt_of_le (k147).lt hge157
    have lt_B133_B155 := Nat.lt_of_lt_of_le (hS140.blk).lt hge157
    refine Xc (v := .tuple #[.agg #[.int .i64 1, .int .i64 0, .int .i64 0, .int .i64 0, .int .i64 0, .slice (some ⟨B151, 0, none⟩) 0 cap152, .slice (some ⟨B155, 0, none⟩) 0 cap156, .int .i64 0], .bool true]) rfl rfl ?_
    refine Yz (v := .agg #[.int .i64 1, .int .i64 0, .int .i64 0, .int .i64 0, .int .i64 0, .slice (some ⟨B151, 0, none⟩) 0 cap152, .slice (some ⟨B155, 0, none⟩) 0 cap156, .int .i64 0]) rfl rfl rfl ?_
    refine Yz (v := .bool true) rfl rfl rfl ?_
    have k160 := (hS140.blk.grown0 hg150)
    refine Xz (vs := [.int .i64 1, .int .i64 0, .int .i64 0, .int .i64 0, .int .i64 0, .slice (some ⟨B151, 0, none⟩) 0 cap152, .slice (some ⟨B155, 0, none⟩) 0 cap156, .int .i64 0]) (cs' := #[.int .i64 1, .int .i64 0, .int .i64 0, .int .i64 0, .int .i64 0, .slice (some ⟨B151, 0, none⟩) 0 cap152, .slice (some ⟨B155, 0, none⟩) 0 cap156, .int .i64 0]) Y0 rfl rfl rfl (by simp [Value.oneCell']) k160 (Nat.le_of_ble_eq_true rfl) rfl ?_
    intro w161 hS162
    have hb163 := low1 hb159 hS162.grw (by omega)
    refine Xa ?_
    refine Xv ?_
    refine Xt ?_
    refine Xb ?_
    refine Xd (o' := 0) Yt rfl rfl rfl ?_
    refine Xi (v := .int .i64 1) X3 rfl (hS162.blk.cell rfl) rfl ?_
    refine Xa ?_
    refine Ye ?_
    refine Xb ?_
    refine X4 (q := true) rfl rfl (by decide) rfl ?_
    refine Xh (v := .bool true) rfl rfl ?_
    refine Xa ?_
    refine Zc rfl rfl ?_
    refine Xb ?_
    refine Xc (v := .pointer (some ⟨R, 0, none⟩)) rfl rfl ?_
    have k164 := ((k144.grown0 hg150).grown hS162.grw (Xf (by omega)))
    refine Xn (vs := [.pointer (some ⟨R, 0, none⟩), .int .i64 20]) Y1 (Xg rfl (Xg rfl Xm)) rfl (Yr p107 20 (by omega) _ R bs _ _ _ k164 (by omega) (SlLt.low1 hs hb163 hlo) (by first | exact hb | exact fun b h => hb b (List.mem_of_mem_take h)) (by first | omega | (rw [List.length_take]; omega))) ?_
    rintro _ w170 ⟨k165, rfl, hk166, hk167, kR168, hg169⟩
    have hb171 := grown_trans hb163 hg169
    refine Xd (o' := 4) Qm rfl rfl rfl ?_
    have k172 := (hS162.blk.grown hg169 (Xf (by omega)))
    refine Yc (v := .int .i64 k165) (cs' := #[.int .i64 1, .int .i64 0, .int .i64 0, .int .i64 0, .int .i64 k165, .slice (some ⟨B151, 0, none⟩) 0 cap152, .slice (some ⟨B155, 0, none⟩) 0 cap156, .int .i64 0]) X3 rfl rfl rfl k172 (Nat.le_of_ble_eq_true rfl) rfl ?_
    intro w173 hS174
    have hb175 := low1 hb171 hS174.grw (by omega)
    refine Xa ?_
    refine X1 ?_
    refine Xc (v := .pointer (some ⟨R, 0, none⟩)) rfl rfl ?_
    have k176 := (kR168.grown hS174.grw (Xf (by omega)))
    refine Xn (vs := [.pointer (some ⟨R, 0, none⟩), .int .i64 3]) Y1 (Xg rfl (Xg rfl Xm)) rfl (Yr (p107 + 1) 3 (by omega) _ R bs _ _ _ k176 (by omega) (SlLt.low1 hs hb175 hlo) (by first | exact hb | exact fun b h => hb b (List.mem_of_mem_take h)) (by first | omega | (rw [List.length_take]; omega))) ?_
    rintro _ w182 ⟨k177, rfl, hk178, hk179, kR180, hg181⟩
    have hb183 := grown_trans hb175 hg181
    refine Jg (c := k177 / 2) rfl rfl (by omega) (by omega) (by omega) rfl rfl ?_
    refine Xd (o' := 3) Z6 rfl rfl rfl ?_
    have k184 := (hS174.blk.grown hg181 (Xf (by omega)))
    refine Yc (v := .int .i64 (k177 / 2)) (cs' := #[.int .i64 1, .int .i64 0, .int .i64 0, .int .i64 (k177 / 2), .int .i64 k165, .slice (some ⟨B151, 0, none⟩) 0 cap152, .slice (some ⟨B155, 0, none⟩) 0 cap156, .int .i64 0]) X3 rfl rfl rfl k184 (Nat.le_of_ble_eq_true rfl) rfl ?_
    intro w185 hS186
    have hb187 := low1 hb183 hS186.grw (by omega)
    refine Xa ?_
    refine Yy ?_
    refine Xv ?_
    refine Xb ?_
    refine Xu (vs := [.int .i64 1, .int .i64 0, .int .i64 0, .int .i64 (k177 / 2), .int .i64 k165, .slice (some ⟨B151, 0, none⟩) 0 cap152, .slice (some ⟨B155, 0, none⟩) 0 cap156, .int .i64 0]) Y0 rfl rfl (hS186.blk.rangeL 0 8 rfl) rfl ?_
    have k188 := ((((((k145.grown0 hg150).grown hS162.grw (Xf (by omega))).grown hg169 (Xf (by omega))).grown hS174.grw (Xf (by omega))).grown hg181 (Xf (by omega))).grown hS186.grw (Xf (by omega)))
    refine Xz (vs := [.int .i64 1, .int .i64 0, .int .i64 0, .int .i64 (k177 / 2), .int .i64 k165, .slice (some ⟨B151, 0, none⟩) 0 cap152, .slice (some ⟨B155, 0, none⟩) 0 cap156, .int .i64 0]) (cs' := #[.int .i64 1, .int .i64 0, .int .i64 0, .int .i64 (k177 / 2), .int .i64 k165, .slice (some ⟨B151, 0, none⟩) 0 cap152, .slice (some ⟨B155, 0, none⟩) 0 cap156, .int .i64 0]) Y0 rfl rfl rfl (by simp [Value.oneCell']) k188 (Nat.le_of_ble_eq_true rfl) rfl ?_
    intro w189 hS190
    have hb191 := low1 hb187 hS190.grw (by omega)
    refine Xa ?_
    refine Xs ?_
    have k192 := ((((((hO158.grown hS162.grw (Xf (by omega))).grown hg169 (Xf (by omega))).grown hS174.grw (Xf (by omega))).grown hg181 (Xf (by omega))).grown hS186.grw (Xf (by omega))).grown hS190.grw (Xf (by omega)))
    have k193 := ((((((hO154.grown hS162.grw (Xf (by omega))).grown hg169 (Xf (by omega))).grown hS174.grw (Xf (by omega))).grown hg181 (Xf (by omega))).grown hS186.grw (Xf (by omega))).grown hS190.grw (Xf (by omega)))
    have k194 := ((kR180.grown hS186.grw (Xf (by omega))).grown hS190.grw (Xf (by omega)))
    refine ⟨.agg #[.int .i64 1, .int .i64 0, .int .i64 0, .int .i64 (k177 / 2), .int .i64 k165, .slice (some ⟨B151, 0, none⟩) 0 cap152, .slice (some ⟨B155, 0, none⟩) 0 cap156, .int .i64 0], Zx rfl (Yh (vs := [.int .i64 1, .int .i64 0, .int .i64 0, .int .i64 (k177 / 2), .int .i64 k165, .slice (some ⟨B151, 0, none⟩) 0 cap152, .slice (some ⟨B155, 0, none⟩) 0 cap156, .int .i64 0]) Y0 rfl rfl (hS190.blk.rangeL 0 8 rfl)), ⟨⟨1, ⟨0, 0⟩, k177 / 2, k165, ([] : List Rt), ([] : List Int), 0⟩, some ⟨B151, 0, none⟩, cap152, some ⟨B155, 0, none⟩, cap156⟩, (p107 + 1 + 1), rfl, ⟨OwnN.of k192 hlB155, ⟨([] : List Rt), OwnN.of k193 hlB151, rfl, ?_⟩, ?_, ?_, ⟨show (0 : Int) ≤ k177 / 2 by omega, show k177 / 2 ≤ (1 : Int) by omega⟩⟩, by omega, by omega, k194, hb191⟩
    ·
     intro x hx; first | (simp [zeros4] at hx; subst hx; exact ⟨by decide, by decide, by decide, by decide⟩) | simp at hx
    ·
     first | exact Nat.le_of_ble_eq_true rfl | omega | (simp only [List.length_nil]; omega)
    ·
     exact Nat.le_of_ble_eq_true rfl
   ·
    have h195 := of_decide_eq_false h142
    refine Xy ?_
    refine Xv ?_
    refine Xt ?_
    refine Xb ?_
    refine Xd (o' := 0) Yt rfl rfl rfl ?_
    refine Xi (v := .int .i64 k) X3 rfl (hS140.blk.cell rfl) rfl ?_
    refine Xa ?_
    refine Ye ?_
    refine Xb ?_
    refine X4 (q := decide (k = 1)) rfl rfl rfl rfl ?_
    refine Xh (v := .bool (decide (k = 1))) rfl rfl ?_
    refine Xa ?_
    refine Xw rfl (fun h196 => ?_) (fun h196 => ?_)
    ·
     have h197 := of_decide_eq_true h196
     refine Xb ?_
     refine Xc (v := .pointer (some ⟨R, 0, none⟩)) rfl rfl ?_
     have k198 := ((k136.grown0 hN135.grw).grown hS140.grw (Xf (by omega)))
     refine Xn (vs := [.pointer (some ⟨R, 0, none⟩), .int .i64 20]) Y1 (Xg rfl (Xg rfl Xm)) rfl (Yr p107 20 (by omega) _ R bs _ _ _ k198 (by omega) (SlLt.low1 hs hb141 hlo) (by first | exact hb | exact fun b h => hb b (List.mem_of_mem_take h)) (by first | omega | (rw [List.length_take]; omega))) ?_
     rintro _ w204 ⟨k199, rfl, hk200, hk201, kR202, hg203⟩
     have hb205 := grown_trans hb141 hg203
     refine Xd (o' := 4) Qm rfl rfl rfl ?_
     have k206 := (hS140.blk.grown hg203 (Xf (by omega)))
     refine Yc (v := .int .i64 k199) (cs' := #[.int .i64 k, .int .i64 l106.s, .int .i64 l106.v, .int .i64 0, .int .i64 k199, .slice (some ⟨B124, 0, none⟩) 4 cap125, .slice (some ⟨B128, 0, none⟩) 0 cap129, .int .i64 to]) X3 rfl rfl rfl k206 (Nat.le_of_ble_eq_true rfl) rfl ?_
     intro w207 hS208
     have hb209 := low1 hb205 hS208.grw (by omega)
     refine Xa ?_
     refine X1 ?_
     refine Xc (v := .pointer (some ⟨R, 0, none⟩)) rfl rfl ?_
     have k210 := (kR202.grown hS208.grw (Xf (by omega)))
     refine Xn (vs := [.pointer (some ⟨R, 0, none⟩), .int .i64 3]) Y1 (Xg rfl (Xg rfl Xm)) rfl (Yr (p107 + 1) 3 (by omega) _ R bs _ _ _ k210 (by omega) (SlLt.low1 hs hb209 hlo) (by first | exact hb | exact fun b h => hb b (List.mem_of_mem_take h)) (by first | omega | (rw [List.length_take]; omega))) ?_
     rintro _ w216 ⟨k211, rfl, hk212, hk213, kR214, hg215⟩
     have hb217 := grown_trans hb209 hg215
     refine Jg (c := k211 / 2) rfl rfl (by omega) (by omega) (by omega) rfl rfl ?_
     refine Xd (o' := 3) Z6 rfl rfl rfl ?_
     have k218 := (hS208.blk.grown hg215 (Xf (by omega)))
     refine Yc (v := .int .i64 (k211 / 2)) (cs' := #[.int .i64 k, .int .i64 l106.s, .int .i64 l106.v, .int .i64 (k211 / 2), .int .i64 k199, .slice (some ⟨B124, 0, none⟩) 4 cap125, .slice (some ⟨B128, 0, none⟩) 0 cap129, .int .i64 to]) X3 rfl rfl rfl k218 (Nat.le_of_ble_eq_true rfl) rfl ?_
     intro w219 hS220
     have hb221 := low1 hb217 hS220.grw (by omega)
     refine Xa ?_
     refine Yy ?_
     refine Xv ?_
     refine Xb ?_
     refine Xu (vs := [.int .i64 k, .int .i64 l106.s, .int .i64 l106.v, .int .i64 (k211 / 2), .int .i64 k199, .slice (some ⟨B124, 0, none⟩) 4 cap125, .slice (some ⟨B128, 0, none⟩) 0 cap129, .int .i64 to]) Y0 rfl rfl (hS220.blk.rangeL 0 8 rfl) rfl ?_
     have k222 := ((((((k137.grown0 hN135.grw).grown hS140.grw (Xf (by omega))).grown hg203 (Xf (by omega))).grown hS208.grw (Xf (by omega))).grown hg215 (Xf (by omega))).grown hS220.grw (Xf (by omega)))
     refine Xz (vs := [.int .i64 k, .int .i64 l106.s, .int .i64 l106.v, .int .i64 (k211 / 2), .int .i64 k199, .slice (some ⟨B124, 0, none⟩) 4 cap125, .slice (some ⟨B128, 0, none⟩) 0 cap129, .int .i64 to]) (cs' := #[.int .i64 k, .int .i64 l106.s, .int .i64 l106.v, .int .i64 (k211 / 2), .int .i64 k199, .slice (some ⟨B124, 0, none⟩) 4 cap125, .slice (some ⟨B128, 0, none⟩) 0 cap129, .int .i64 to]) Y0 rfl rfl rfl (by simp [Value.oneCell']) k222 (Nat.le_of_ble_eq_true rfl) rfl ?_
     intro w223 hS224
     have hb225 := low1 hb221 hS224.grw (by omega)
     refine Xa ?_
     refine Xs ?_
     have k226 := (((((((hO131.grown0 hN135.grw).grown hS140.grw (Xf (by omega))).grown hg203 (Xf (by omega))).grown hS208.grw (Xf (by omega))).grown hg215 (Xf (by omega))).grown hS220.grw (Xf (by omega))).grown hS224.grw (Xf (by omega)))
     have k227 := (((((((hO127.grown0 hN135.grw).grown hS140.grw (Xf (by omega))).grown hg203 (Xf (by omega))).grown hS208.grw (Xf (by omega))).grown hg215 (Xf (by omega))).grown hS220.grw (Xf (by omega))).grown hS224.grw (Xf (by omega)))
     have k228 := ((kR214.grown hS220.grw (Xf (by omega))).grown hS224.grw (Xf (by omega)))
     refine ⟨.agg #[.int .i64 k, .int .i64 l106.s, .int .i64 l106.v, .int .i64 (k211 / 2), .int .i64 k199, .slice (some ⟨B124, 0, none⟩) 4 cap125, .slice (some ⟨B128, 0, none⟩) 0 cap129, .int .i64 to], Zx rfl (Yh (vs := [.int .i64 k, .int .i64 l106.s, .int .i64 l106.v, .int .i64 (k211 / 2), .int .i64 k199, .slice (some ⟨B124, 0, none⟩) 4 cap125, .slice (some ⟨B128, 0, none⟩) 0 cap129, .int .i64 to]) Y0 rfl rfl (hS224.blk.rangeL 0 8 rfl)), ⟨⟨k, l106, k211 / 2, k199, zeros4, ([] : List Int), to⟩, some ⟨B124, 0, none⟩, cap125, some ⟨B128, 0, none⟩, cap129⟩, (p107 + 1 + 1), rfl, ⟨OwnN.of k226 hlB128, ⟨zeros4, OwnN.of k227 hlB124, rfl, ?_⟩, ?_, ?_, ⟨show (0 : Int) ≤ k211 / 2 by omega, show k211 / 2 ≤ (1 : Int) by omega⟩⟩, by omega, by omega, k228, hb225⟩
     ·
      intro x hx; first | (simp [zeros4] at hx; subst hx; exact ⟨by decide, by decide, by decide, by decide⟩) | simp at hx
     ·
      first | exact Nat.le_of_ble_eq_true rfl | omega | (simp only [List.length_nil]; omega)
     ·
      exact Nat.le_of_ble_eq_true rfl
    ·
     have h229 := of_decide_eq_false h196
     refine Xb ?_
     refine X4 (q := decide (k = 4)) rfl rfl rfl rfl ?_
     refine Xh (v := .bool (decide (k = 4))) rfl rfl ?_
     refine Xa ?_
     refine Xw rfl (fun h230 => ?_) (fun h230 => ?_)
     ·
      have h231 := of_decide_eq_true h230
      refine Xb ?_
      refine Xc (v := .pointer (some ⟨R, 0, none⟩)) rfl rfl ?_
      have k232 := ((k136.grown0 hN135.grw).grown hS140.grw (Xf (by omega)))
      refine Xn (vs := [.pointer (some ⟨R, 0, none⟩), .int .i64 4]) Y1 (Xg rfl (Xg rfl Xm)) rfl (Yr p107 4 (by omega) _ R bs _ _ _ k232 (by omega) (SlLt.low1 hs hb141 hlo) (by first | exact hb | exact fun b h => hb b (List.mem_of_mem_take h)) (by first | omega | (rw [List.length_take]; omega))) ?_
      rintro _ w238 ⟨k233, rfl, hk234, hk235, kR236, hg237⟩
      have hb239 := grown_trans hb141 hg237
      refine Xh (v := .int .i64 k233) rfl rfl ?_
      refine Xa ?_
      refine Ye ?_
      have k240 := (((hO131.grown0 hN135.grw).grown hS140.grw (Xf (by omega))).grown hg237 (Xf (by omega)))
      have k241 := (((k137.grown0 hN135.grw).grown hS140.grw (Xf (by omega))).grown hg237 (Xf (by omega)))
      have k242 := (((hO127.grown0 hN135.grw).grown hS140.grw (Xf (by omega))).grown hg237 (Xf (by omega)))
      have k243 := (hS140.blk.grown hg237 (Xf (by omega)))
      refine Zd (fun mm f' w' => ∃ (n : Int) (p1 : Int) (Bq : Nat) (cq : Nat) (ys : List Int), mm = n.toNat ∧ (0 ≤ n ∧ n ≤ 3) ∧ (p107 + 1 ≤ p1 ∧ p1 ≤ (p107 + 1) + 3 - n) ∧ (ys.length : Int) ≤ 3 - n ∧ Dw.Own w' Bq 3 1 cq ys.length (ys.flatMap icell) ∧ w.heap.size ≤ Bq ∧ R ≠ Bq ∧ B101 ≠ Bq ∧ B124 ≠ Bq ∧ B133 ≠ Bq ∧ f' 9 = .int .i64 n ∧ f' 0 = .pointer (some ⟨R, 0, none⟩) ∧ f' 6 = .pointer (some ⟨B101, 0, none⟩) ∧ f' 7 = .pointer (some ⟨B133, 0, none⟩) ∧ w.grownBy w' (some R) ∧ Blk w' B101 43 #[.int .i64 0, .int .i64 0, .int .i64 0, .int .i64 0, .int .i64 0, .slice none 0 0, .slice none 0 0, .int .i64 0] ∧ Dw.Own w' B124 37 5 cap125 zeros4.length (zeros4.flatMap Rt.cells) ∧ Blk w' B133 43 #[.int .i64 k, .int .i64 l106.s, .int .i64 l106.v, .int .i64 0, .int .i64 0, .slice (some ⟨B124, 0, none⟩) 4 cap125, .slice (some ⟨Bq, 0, none⟩) ys.length cq, .int .i64 to] ∧ Blk w' R 108 #[.slice a bs.length c, .int .i64 p1]) (k233.toNat) ⟨k233, (p107 + 1), B128, cap129, ([] : List Int), rfl, (by omega), (by omega), (by simp only [List.length_nil]; omega), k240, hlB128, (by omega), (by omega), (by omega), (by omega), rfl, rfl, rfl, rfl, hb239, k241, k242, k243, kR236⟩ ?_
      rintro mm f244 w245 ⟨n, p1, Bq, cq, ys, hm247, hnn, hpp, hyl, hOwn, hlBq, hne0, hne1, hne2, hne3, e248, e249, e250, e251, hb246, k252, k253, k254, k255⟩
      refine Xt ?_
      refine Xb ?_
      refine Xc (v := .int .i64 n) e248 rfl ?_
      refine Zq (q := decide (0 < n)) rfl rfl rfl rfl ?_
      refine Xa ?_
      refine Xw rfl (fun h256 => ?_) (fun h256 => ?_)
      ·
       have h257 := of_decide_eq_true h256
       refine Xy ?_
       refine Xv ?_
       refine Xt ?_
       refine Ye ?_
       refine Qs (m := 5) [[], [0], [], [2], [2, 3], [0, 1, 2, 3, 4], [0, 1, 2, 3, 4, 5], [0, 1, 2, 3, 4, 5, 6]] (fun S F w' => ∃ (k347 : Int) (B354 : Nat), w245.grownBy w' (some R) ∧ F 0 = .pointer (some ⟨R, 0, none⟩) ∧ F 6 = .pointer (some ⟨B101, 0, none⟩) ∧ F 7 = .pointer (some ⟨B133, 0, none⟩) ∧ F 9 = .int .i64 n ∧ (S 3 = false → Blk w' R 108 #[.slice a bs.length c, .int .i64 p1]) ∧ (S 0 = true → F 45 = .pointer (some ⟨B133, 6, none⟩)) ∧ (S 1 = true → F 46 = .slice (some ⟨Bq, 0, none⟩) ys.length cq) ∧ (S 2 = true → F 47 = .pointer (some ⟨R, 0, none⟩)) ∧ (S 3 = true → F 48 = .int .i64 k347 ∧ 0 ≤ k347 ∧ (k347 < 20 ∨ k347 = 0) ∧ Blk w' R 108 #[.slice a bs.length c, .int .i64 (p1 + 1)]) ∧ (S 4 = true → F 49 = .slice (some ⟨B354, 0, none⟩) 1 1 ∧ w.heap.size ≤ B354 ∧ Blk w' B354 3 (([k347] : List Int).flatMap icell).toArray ∧ B101 < B354 ∧ B124 < B354 ∧ B133 < B354 ∧ R < B354 ∧ Bq < B354 ∧ w245.heap.size ≤ B354)) Zi (by kernel_rfl) ⟨0, 0, Yl _, e249, e250, e251, e248, fun _ => (k255).grown0 (Yl _), fun h => X5 h, fun h => X5 h, fun h => X5 h, fun h => X5 h, fun h => X5 h⟩ ?_ ?_
       ·
        refine X6 (fun S F w362 hS hbef hcl hI => ?_) ?_
        ·
         obtain ⟨k347, B354, hi363, e364, e365, e366, e367, c_old_R, c_0, c_1, c_2, c_3, c_4⟩ := hI
         have hb368 := grown_trans hb246 hi363
         refine Xd (o' := 6) Qw e366 rfl rfl ?_
         exact Xa ⟨k347, B354, hi363, e364, e365, e366, e367, fun h => c_old_R h, fun _ => rfl, fun h => Xx 1 hS hcl rfl h, c_2, c_3, c_4⟩
        refine X6 (fun S F w369 hS hbef hcl hI => ?_) ?_
        ·
         obtain ⟨k347, B354, hi370, e371, e372, e373, e374, c_old_R, c_0, c_1, c_2, c_3, c_4⟩ := hI
         have hb375 := grown_trans hb246 hi370
         obtain e376 := c_0 (Xo 0 hbef rfl)
         have k377 := (k254.grown hi370 (Xf (by omega)))
         refine Xi (v := .slice (some ⟨Bq, 0, none⟩) ys.length cq) Jo e376 (k377.cell rfl) rfl ?_
         exact Xa ⟨k347, B354, hi370, e371, e372, e373, e374, fun h => c_old_R h, c_0, fun _ => rfl, c_2, c_3, c_4⟩
        refine X6 (fun S F w378 hS hbef hcl hI => ?_) ?_
        ·
         obtain ⟨k347, B354, hi379, e380, e381, e382, e383, c_old_R, c_0, c_1, c_2, c_3, c_4⟩ := hI
         have hb384 := grown_trans hb246 hi379
         refine Xc (v := .pointer (some ⟨R, 0, none⟩)) e380 rfl ?_
         exact Xa ⟨k347, B354, hi379, e380, e381, e382, e383, fun h => c_old_R h, c_0, c_1, fun _ => rfl, fun h => Xx 3 hS hcl rfl h, fun h => Xx 4 hS hcl rfl h⟩
        refine X6 (fun S F w385 hS hbef hcl hI => ?_) ?_
        ·
         obtain ⟨k347, B354, hi386, e387, e388, e389, e390, c_old_R, c_0, c_1, c_2, c_3, c_4⟩ := hI
         have hb391 := grown_trans hb246 hi386
         obtain e392 := c_2 (Xo 2 hbef rfl)
         refine Xn (vs := [.pointer (some ⟨R, 0, none⟩), .int .i64 20]) Y1 (Xg e392 (Xg rfl Xm)) rfl (Yr p1 20 (by omega) _ R bs _ _ _ (c_old_R hS) (by omega) (SlLt.low1 hs hb391 hlo) (by first | exact hb | exact fun b h => hb b (List.mem_of_mem_take h)) (by first | omega | (rw [List.length_take]; omega))) ?_
         rintro _ w398 ⟨k393, rfl, hk394, hk395, kR396, hg397⟩
         have hb399 := grown_trans hb391 hg397
         exact Xa ⟨k393, B354, (grown_trans hi386 hg397), e387, e388, e389, e390, fun h => Qh h, c_0, c_1, c_2, fun _ => ⟨rfl, hk394, hk395, kR396⟩, fun h => Xx 4 hS hcl rfl h⟩
        refine X6 (fun S F w400 hS hbef hcl hI => ?_) ?_
        ·
         obtain ⟨k347, B354, hi401, e402, e403, e404, e405, c_old_R, c_0, c_1, c_2, c_3, c_4⟩ := hI
         have hb406 := grown_trans hb246 hi401
         obtain e407 := c_2 (Xo 2 hbef rfl)
         obtain ⟨e408, hk348, hk349, ks3_R⟩ := c_3 (Xo 3 hbef rfl)
         refine X7 (ps := [(0, .int .i64 k347)]) (e := 3) (cs := (([k347] : List Int).flatMap icell).toArray) (Xp e408 X9) (fun _ => by kernel_rfl) rfl ?_
         intro B409 w410 hN411
         have hlB409 := Yf hN411 hb406
         have k412 := (k252.grown hi401 (Xf (by omega)))
         have lt_B101_B409 := Xq hN411 (k412).lt
         have k413 := (k253.grown hi401 (Xf (by omega)))
         have lt_B124_B409 := Xq hN411 (k413).lt
         have k414 := (k254.grown hi401 (Xf (by omega)))
         have lt_B133_B409 := Xq hN411 (k414).lt
         have k415 := (hOwn.grown hi401 (Xf (by omega)))
         have lt_Bq_B409 := Xq hN411 (k415).lt
         have lt_R_B409 := Xq hN411 (ks3_R).lt
         have hb416 := low0 hb406 hN411.grw
         exact Xa ⟨k347, B409, (low0 hi401 hN411.grw), e402, e403, e404, e405, fun hn => Qh ((Xo 3 hbef rfl).symm.trans hn), c_0, c_1, c_2, fun h => let ⟨y417, y418, y419, y420⟩ := c_3 h; ⟨y417, y418, y419, (y420).grown0 hN411.grw⟩, fun _ => ⟨rfl, hlB409, hN411.blk, lt_B101_B409, lt_B124_B409, lt_B133_B409, (by omega), lt_Bq_B409, (Nat.le_trans hi401.size (Nat.le_of_eq hN411.eq.symm))⟩⟩
        exact Q5
       ·
        intro S F w421 hall hI
        obtain ⟨k347, B354, hi422, e423, e424, e425, e426, c_old_R, c_0, c_1, c_2, c_3, c_4⟩ := hI
        have hb427 := grown_trans hb246 hi422
        obtain e428 := c_0 (hall 0 (by decide))
        obtain e429 := c_1 (hall 1 (by decide))
        obtain e430 := c_2 (hall 2 (by decide))
        obtain ⟨e431, hk348, hk349, ks3_R⟩ := c_3 (hall 3 (by decide))
        obtain ⟨e432, hlB354, kb_B354, lt_B101_B354, lt_B124_B354, lt_B133_B354, lt_R_B354, lt_Bq_B354, hk_B354⟩ := c_4 (hall 4 (by decide))
        have k433 := (hOwn.grown hi422 (Xf (by omega)))
        have k434 := (k252.grown hi422 (Xf (by omega)))
        have k435 := (k253.grown hi422 (Xf (by omega)))
        have k436 := (k254.grown hi422 (Xf (by omega)))
        refine Kq (g := icell) (ys := ys) (zs := ([k347] : List Int)) Lm rfl Ys (by omega) Ut e429 e432 k433 (Qf Ys kb_B354) (by simp only [List.length_cons, List.length_nil]; omega) (by omega) rfl ?_
        intro B437 cap438 w439 hO440 hg441 hor442
        have hlB437 : w.heap.size ≤ B437 := by rcases hor442 with h | h; (rw [h]; exact hlBq); (rw [h]; exact hb427.size)
        have ne_B101_B437 : B101 ≠ B437 := by have h := (k434).lt; omega
        have ne_B124_B437 : B124 ≠ B437 := by have h := (k435).lt; omega
        have ne_B133_B437 : B133 ≠ B437 := by have h := (k436).lt; omega
        have ne_R_B437 : R ≠ B437 := by have h := (ks3_R).lt; omega
        have ne_B354_B437 : B354 ≠ B437 := by have h := (kb_B354).lt; omega
        have hb443 := low1 hb427 hg441 (by omega)
        refine Xd (o' := 6) Qw e425 rfl rfl ?_
        have k444 := (k436.grown hg441 (Xf (by omega)))
        refine Yc (v := .slice (some ⟨B437, 0, none⟩) ((ys ++ ([k347] : List Int)).length) cap438) (cs' := #[.int .i64 k, .int .i64 l106.s, .int .i64 l106.v, .int .i64 0, .int .i64 0, .slice (some ⟨B124, 0, none⟩) 4 cap125, .slice (some ⟨B437, 0, none⟩) ((ys ++ ([k347] : List Int)).length) cap438, .int .i64 to]) Jo rfl rfl rfl k444 (Nat.le_of_ble_eq_true rfl) rfl ?_
        intro w445 hS446
        have hb447 := low1 hb443 hS446.grw (by omega)
        refine Xa ?_
        refine Yy ?_
        refine Xv ?_
        refine X1 ?_
        refine Xc (v := .int .i64 n) e426 rfl ?_
        refine Y3 (c := n - 1) rfl rfl (by omega) (by omega) (by omega) rfl ?_
        refine Xh (v := .int .i64 (n - 1)) rfl rfl ?_
        refine Xa ?_
        refine Xv ?_
        have k448 := (hO440.grown hS446.grw (Xf (by omega)))
        have k449 := ((k434.grown hg441 (Xf (by omega))).grown hS446.grw (Xf (by omega)))
        have k450 := ((k435.grown hg441 (Xf (by omega))).grown hS446.grw (Xf (by omega)))
        have k451 := ((ks3_R.grown hg441 (Xf (by omega))).grown hS446.grw (Xf (by omega)))
        exact ⟨(n - 1).toNat, by omega, (n - 1), (p1 + 1), B437, cap438, (ys ++ ([k347] : List Int)), rfl, (by omega), (by omega), (by simp only [List.length_append, List.length_cons, List.length_nil]; omega), k448, hlB437, (by omega), (by omega), (by omega), (by omega), rfl, e423, e424, e425, hb447, k449, k450, hS446.blk, k451⟩
      ·
       have h452 := of_decide_eq_false h256
       refine Y5 ?_
       refine Y2 ?_
       refine Y2 ?_
       refine Z1 ?_
       refine Yy ?_
       refine Xv ?_
       refine Xb ?_
       refine Xu (vs := [.int .i64 k, .int .i64 l106.s, .int .i64 l106.v, .int .i64 0, .int .i64 0, .slice (some ⟨B124, 0, none⟩) 4 cap125, .slice (some ⟨Bq, 0, none⟩) ys.length cq, .int .i64 to]) Y0 e251 rfl (k254.rangeL 0 8 rfl) rfl ?_
       refine Xz (vs := [.int .i64 k, .int .i64 l106.s, .int .i64 l106.v, .int .i64 0, .int .i64 0, .slice (some ⟨B124, 0, none⟩) 4 cap125, .slice (some ⟨Bq, 0, none⟩) ys.length cq, .int .i64 to]) (cs' := #[.int .i64 k, .int .i64 l106.s, .int .i64 l106.v, .int .i64 0, .int .i64 0, .slice (some ⟨B124, 0, none⟩) 4 cap125, .slice (some ⟨Bq, 0, none⟩) ys.length cq, .int .i64 to]) Y0 e250 rfl rfl (by simp [Value.oneCell']) k252 (Nat.le_of_ble_eq_true rfl) rfl ?_
       intro w453 hS454
       have hb455 := low1 hb246 hS454.grw (by omega)
       refine Xa ?_
       refine Xs ?_
       have k456 := (hOwn.grown hS454.grw (Xf (by omega)))
       have k457 := (k253.grown hS454.grw (Xf (by omega)))
       have k458 := (k255.grown hS454.grw (Xf (by omega)))
       refine ⟨.agg #[.int .i64 k, .int .i64 l106.s, .int .i64 l106.v, .int .i64 0, .int .i64 0, .slice (some ⟨B124, 0, none⟩) 4 cap125, .slice (some ⟨Bq, 0, none⟩) ys.length cq, .int .i64 to], Zx rfl (Yh (vs := [.int .i64 k, .int .i64 l106.s, .int .i64 l106.v, .int .i64 0, .int .i64 0, .slice (some ⟨B124, 0, none⟩) 4 cap125, .slice (some ⟨Bq, 0, none⟩) ys.length cq, .int .i64 to]) Y0 e250 rfl (hS454.blk.rangeL 0 8 rfl)), ⟨⟨k, l106, 0, 0, zeros4, ys, to⟩, some ⟨B124, 0, none⟩, cap125, some ⟨Bq, 0, none⟩, cq⟩, p1, rfl, ⟨OwnN.of k456 hlBq, ⟨zeros4, OwnN.of k457 hlB124, rfl, ?_⟩, ?_, ?_, ⟨show (0 : Int) ≤ 0 by omega, show 0 ≤ (1 : Int) by omega⟩⟩, by omega, by omega, k458, hb455⟩
       ·
        intro x hx; first | (simp [zeros4] at hx; subst hx; exact ⟨by decide, by decide, by decide, by decide⟩) | simp at hx
       ·
        first | exact Nat.le_of_ble_eq_true rfl | omega | (simp only [List.length_nil]; omega)
       ·
        exact Nat.le_of_ble_eq_true rfl
     ·
      have h459 := of_decide_eq_false h230
      refine Xb ?_
      refine X4 (q := decide (k = 3)) rfl rfl rfl rfl ?_
      refine Xh (v := .bool (decide (k = 3))) rfl rfl ?_
      refine Xa ?_
      refine Xw rfl (fun h460 => ?_) (fun h460 => ?_)
      ·
       have h461 := of_decide_eq_true h460
       refine X1 ?_
       refine Xc (v := .pointer (some ⟨R, 0, none⟩)) rfl rfl ?_
       have k462 := ((k136.grown0 hN135.grw).grown hS140.grw (Xf (by omega)))
       refine Xn (vs := [.pointer (some ⟨R, 0, none⟩), .int .i64 24]) Y1 (Xg rfl (Xg rfl Xm)) rfl (Yr p107 24 (by omega) _ R bs _ _ _ k462 (by omega) (SlLt.low1 hs hb141 hlo) (by first | exact hb | exact fun b h => hb b (List.mem_of_mem_take h)) (by first | omega | (rw [List.length_take]; omega))) ?_
       rintro _ w468 ⟨k463, rfl, hk464, hk465, kR466, hg467⟩
       have hb469 := grown_trans hb141 hg467
       refine Y3 (c := k463 - 4) rfl rfl (by omega) (by omega) (by omega) rfl ?_
       refine Xd (o' := 4) Qm rfl rfl rfl ?_
       have k470 := (hS140.blk.grown hg467 (Xf (by omega)))
       refine Yc (v := .int .i64 (k463 - 4)) (cs' := #[.int .i64 k, .int .i64 l106.s, .int .i64 l106.v, .int .i64 0, .int .i64 (k463 - 4), .slice (some ⟨B124, 0, none⟩) 4 cap125, .slice (some ⟨B128, 0, none⟩) 0 cap129, .int .i64 to]) X3 rfl rfl rfl k470 (Nat.le_of_ble_eq_true rfl) rfl ?_
       intro w471 hS472
       have hb473 := low1 hb469 hS472.grw (by omega)
       refine Xa ?_
       refine Yy ?_
       refine Xv ?_
       refine Xb ?_
       refine Xu (vs := [.int .i64 k, .int .i64 l106.s, .int .i64 l106.v, .int .i64 0, .int .i64 (k463 - 4), .slice (some ⟨B124, 0, none⟩) 4 cap125, .slice (some ⟨B128, 0, none⟩) 0 cap129, .int .i64 to]) Y0 rfl rfl (hS472.blk.rangeL 0 8 rfl) rfl ?_
       have k474 := ((((k137.grown0 hN135.grw).grown hS140.grw (Xf (by omega))).grown hg467 (Xf (by omega))).grown hS472.grw (Xf (by omega)))
       refine Xz (vs := [.int .i64 k, .int .i64 l106.s, .int .i64 l106.v, .int .i64 0, .int .i64 (k463 - 4), .slice (some ⟨B124, 0, none⟩) 4 cap125, .slice (some ⟨B128, 0, none⟩) 0 cap129, .int .i64 to]) (cs' := #[.int .i64 k, .int .i64 l106.s, .int .i64 l106.v, .int .i64 0, .int .i64 (k463 - 4), .slice (some ⟨B124, 0, none⟩) 4 cap125, .slice (some ⟨B128, 0, none⟩) 0 cap129, .int .i64 to]) Y0 rfl rfl rfl (by simp [Value.oneCell']) k474 (Nat.le_of_ble_eq_true rfl) rfl ?_
       intro w475 hS476
       have hb477 := low1 hb473 hS476.grw (by omega)
       refine Xa ?_
       refine Xs ?_
       have k478 := (((((hO131.grown0 hN135.grw).grown hS140.grw (Xf (by omega))).grown hg467 (Xf (by omega))).grown hS472.grw (Xf (by omega))).grown hS476.grw (Xf (by omega)))
       have k479 := (((((hO127.grown0 hN135.grw).grown hS140.grw (Xf (by omega))).grown hg467 (Xf (by omega))).grown hS472.grw (Xf (by omega))).grown hS476.grw (Xf (by omega)))
       have k480 := ((kR466.grown hS472.grw (Xf (by omega))).grown hS476.grw (Xf (by omega)))
       refine ⟨.agg #[.int .i64 k, .int .i64 l106.s, .int .i64 l106.v, .int .i64 0, .int .i64 (k463 - 4), .slice (some ⟨B124, 0, none⟩) 4 cap125, .slice (some ⟨B128, 0, none⟩) 0 cap129, .int .i64 to], Zx rfl (Yh (vs := [.int .i64 k, .int .i64 l106.s, .int .i64 l106.v, .int .i64 0, .int .i64 (k463 - 4), .slice (some ⟨B124, 0, none⟩) 4 cap125, .slice (some ⟨B128, 0, none⟩) 0 cap129, .int .i64 to]) Y0 rfl rfl (hS476.blk.rangeL 0 8 rfl)), ⟨⟨k, l106, 0, k463 - 4, zeros4, ([] : List Int), to⟩, some ⟨B124, 0, none⟩, cap125, some ⟨B128, 0, none⟩, cap129⟩, (p107 + 1), rfl, ⟨OwnN.of k478 hlB128, ⟨zeros4, OwnN.of k479 hlB124, rfl, ?_⟩, ?_, ?_, ⟨show (0 : Int) ≤ 0 by omega, show 0 ≤ (1 : Int) by omega⟩⟩, by omega, by omega, k480, hb477⟩
       ·
        intro x hx; first | (simp [zeros4] at hx; subst hx; exact ⟨by decide, by decide, by decide, by decide⟩) | simp at hx
       ·
        first | exact Nat.le_of_ble_eq_true rfl | omega | (simp only [List.length_nil]; omega)
       ·
        exact Nat.le_of_ble_eq_true rfl
      ·
       have h481 := of_decide_eq_false h460
       refine Xy ?_
       refine Yy ?_
       refine Xv ?_
       refine Xb ?_
       refine Xu (vs := [.int .i64 k, .int .i64 l106.s, .int .i64 l106.v, .int .i64 0, .int .i64 0, .slice (some ⟨B124, 0, none⟩) 4 cap125, .slice (some ⟨B128, 0, none⟩) 0 cap129, .int .i64 to]) Y0 rfl rfl (hS140.blk.rangeL 0 8 rfl) rfl ?_
       have k482 := ((k137.grown0 hN135.grw).grown hS140.grw (Xf (by omega)))
       refine Xz (vs := [.int .i64 k, .int .i64 l106.s, .int .i64 l106.v, .int .i64 0, .int .i64 0, .slice (some ⟨B124, 0, none⟩) 4 cap125, .slice (some ⟨B128, 0, none⟩) 0 cap129, .int .i64 to]) (cs' := #[.int .i64 k, .int .i64 l106.s, .int .i64 l106.v, .int .i64 0, .int .i64 0, .slice (some ⟨B124, 0, none⟩) 4 cap125, .slice (some ⟨B128, 0, none⟩) 0 cap129, .int .i64 to]) Y0 rfl rfl rfl (by simp [Value.oneCell']) k482 (Nat.le_of_ble_eq_true rfl) rfl ?_
       intro w483 hS484
       have hb485 := low1 hb141 hS484.grw (by omega)
       refine Xa ?_
       refine Xs ?_
       have k486 := (((hO131.grown0 hN135.grw).grown hS140.grw (Xf (by omega))).grown hS484.grw (Xf (by omega)))
       have k487 := (((hO127.grown0 hN135.grw).grown hS140.grw (Xf (by omega))).grown hS484.grw (Xf (by omega)))
       have k488 := (((k136.grown0 hN135.grw).grown hS140.grw (Xf (by omega))).grown hS484.grw (Xf (by omega)))
       refine ⟨.agg #[.int .i64 k, .int .i64 l106.s, .int .i64 l106.v, .int .i64 0, .int .i64 0, .slice (some ⟨B124, 0, none⟩) 4 cap125, .slice (some ⟨B128, 0, none⟩) 0 cap129, .int .i64 to], Zx rfl (Yh (vs := [.int .i64 k, .int .i64 l106.s, .int .i64 l106.v, .int .i64 0, .int .i64 0, .slice (some ⟨B124, 0, none⟩) 4 cap125, .slice (some ⟨B128, 0, none⟩) 0 cap129, .int .i64 to]) Y0 rfl rfl (hS484.blk.rangeL 0 8 rfl)), ⟨⟨k, l106, 0, 0, zeros4, ([] : List Int), to⟩, some ⟨B124, 0, none⟩, cap125, some ⟨B128, 0, none⟩, cap129⟩, p107, rfl, ⟨OwnN.of k486 hlB128, ⟨zeros4, OwnN.of k487 hlB124, rfl, ?_⟩, ?_, ?_, ⟨show (0 : Int) ≤ 0 by omega, show 0 ≤ (1 : Int) by omega⟩⟩, by omega, by omega, k488, hb485⟩
       ·
        intro x hx; first | (simp [zeros4] at hx; subst hx; exact ⟨by decide, by decide, by decide, by decide⟩) | simp at hx
       ·
        first | exact Nat.le_of_ble_eq_true rfl | omega | (simp only [List.length_nil]; omega)
       ·
        exact Nat.le_of_ble_eq_true rfl
  ·
   have k489 := (hN103.blk.grown hg115 (Xf (by omega)))
   have h490 : thingOk (⟨k, l106, 0, 0, zeros4, [], to⟩ : Th) = false := (V6 h118).symm.trans h119
   refine Xn (vs := [.int .i64 k, .agg #[.int .i64 l106.s, .int .i64 l106.v], .int .i64 to]) V3 (Xg rfl (Xg rfl (Xg rfl Xm))) rfl (W6 k to l106 h118 h119 _) ?_
   rintro _ w491 ⟨rfl, hg492⟩
   have hb493 := low0 hb117 hg492
   refine Xc (v := .tuple #[.agg #[.int .i64 0, .int .i64 0, .int .i64 0, .int .i64 0, .int .i64 0, .slice none 0 0, .slice none 0 0, .int .i64 0], .bool false]) rfl rfl ?_
   refine Yz (v := .agg #[.int .i64 0, .int .i64 0, .int .i64 0, .int .i64 0, .int .i64 0, .slice none 0 0, .slice none 0 0, .int .i64 0]) rfl rfl rfl ?_
   refine Yz (v := .bool false) rfl rfl rfl ?_
   refine Yj (cs := #[.int .i64 0, .int .i64 0, .int .i64 0, .int .i64 0, .int .i64 0, .slice none 0 0, .slice none 0 0, .int .i64 0]) Jn rfl rfl ?_
   intro B494 w495 hN496
   have hlB494 := Yf hN496 hb493
   have k497 := (kR114.grown0 hg492)
   have lt_R_B494 := Xq hN496 (k497).lt
   have k498 := (k489.grown0 hg492)
   have lt_B101_B494 := Xq hN496 (k498).lt
   have hb499 := low0 hb493 hN496.grw
   refine Xz (vs := [.int .i64 0, .int .i64 0, .int .i64 0, .int .i64 0, .int .i64 0, .slice none 0 0, .slice none 0 0, .int .i64 0]) (cs' := #[.int .i64 0, .int .i64 0, .int .i64 0, .int .i64 0, .int .i64 0, .slice none 0 0, .slice none 0 0, .int .i64 0]) Y0 rfl rfl rfl (by simp [Value.oneCell']) hN496.blk (Nat.le_of_ble_eq_true rfl) rfl ?_
   intro w500 hS501
   have hb502 := low1 hb499 hS501.grw (by omega)
   refine Xh (v := .bool false) rfl rfl ?_
   refine Xa ?_
   refine Xt ?_
   refine Xb ?_
   refine Xd (o' := 0) Yt rfl rfl rfl ?_
   refine Xi (v := .int .i64 0) X3 rfl (hS501.blk.cell rfl) rfl ?_
   refine X4 (q := true) rfl rfl (by decide) rfl ?_
   refine Xa ?_
   refine Zc rfl rfl ?_
   refine X1 ?_
   refine Yw (ps := []) (v := .agg #[.int .i64 0, .int .i64 0]) X9 (by kernel_rfl) rfl ?_
   have k503 := ((k497.grown0 hN496.grw).grown hS501.grw (Xf (by omega)))
   have k504 := ((k498.grown0 hN496.grw).grown hS501.grw (Xf (by omega)))
   have h505 : thingOk (⟨1, ⟨0, 0⟩, 0, 0, [], [], 0⟩ : Th) = true := (Kb (by decide)).symm.trans (by decide)
   refine Xn (vs := [.int .i64 1, .agg #[.int .i64 0, .int .i64 0], .int .i64 0]) V3 (Xg rfl (Xg rfl (Xg rfl Xm))) rfl (Q9 1 0 ⟨0, 0⟩ (by decide) (by decide) _) ?_
   rintro _ w506 ⟨B508, cap509, B512, cap513, rfl, hge510, hO511, hge514, hO515, ne_B508_B512, hg507⟩
   have hb516 := low0 hb502 hg507
   have hlB508 := Nat.le_trans hb502.size hge510
   have lt_R_B508 := Nat.lt_of_lt_of_le (k503).lt hge510
   have lt_B101_B508 := Nat.lt_of_lt_of_le (k504).lt hge510
   have lt_B494_B508 := Nat.lt_of_lt_of_le (hS501.blk).lt hge510
   have hlB512 := Nat.le_trans hb502.size hge514
   have lt_R_B512 := Nat.lt_of_lt_of_le (k503).lt hge514
   have lt_B101_B512 := Nat.lt_of_lt_of_le (k504).lt hge514
   have lt_B494_B512 := Nat.lt_of_lt_of_le (hS501.blk).lt hge514
   refine Xc (v := .tuple #[.agg #[.int .i64 1, .int .i64 0, .int .i64 0, .int .i64 0, .int .i64 0, .slice (some ⟨B508, 0, none⟩) 0 cap509, .slice (some ⟨B512, 0, none⟩) 0 cap513, .int .i64 0], .bool true]) rfl rfl ?_
   refine Yz (v := .agg #[.int .i64 1, .int .i64 0, .int .i64 0, .int .i64 0, .int .i64 0, .slice (some ⟨B508, 0, none⟩) 0 cap509, .slice (some ⟨B512, 0, none⟩) 0 cap513, .int .i64 0]) rfl rfl rfl ?_
   refine Yz (v := .bool true) rfl rfl rfl ?_
   have k517 := (hS501.blk.grown0 hg507)
   refine Xz (vs := [.int .i64 1, .int .i64 0, .int .i64 0, .int .i64 0, .int .i64 0, .slice (some ⟨B508, 0, none⟩) 0 cap509, .slice (some ⟨B512, 0, none⟩) 0 cap513, .int .i64 0]) (cs' := #[.int .i64 1, .int .i64 0, .int .i64 0, .int .i64 0, .int .i64 0, .slice (some ⟨B508, 0, none⟩) 0 cap509, .slice (some ⟨B512, 0, none⟩) 0 cap513, .int .i64 0]) Y0 rfl rfl rfl (by simp [Value.oneCell']) k517 (Nat.le_of_ble_eq_true rfl) rfl ?_
   intro w518 hS519
   have hb520 := low1 hb516 hS519.grw (by omega)
   refine Xa ?_
   refine Xv ?_
   refine Xt ?_
   refine Xb ?_
   refine Xd (o' := 0) Yt rfl rfl rfl ?_
   refine Xi (v := .int .i64 1) X3 rfl (hS519.blk.cell rfl) rfl ?_
   refine Xa ?_
   refine Ye ?_
   refine Xb ?_
   refine X4 (q := true) rfl rfl (by decide) rfl ?_
   refine Xh (v := .bool true) rfl rfl ?_
   refine Xa ?_
   refine Zc rfl rfl ?_
   refine Xb ?_
   refine Xc (v := .pointer (some ⟨R, 0, none⟩)) rfl rfl ?_
   have k521 := ((k503.grown0 hg507).grown hS519.grw (Xf (by omega)))
   refine Xn (vs := [.pointer (some ⟨R, 0, none⟩), .int .i64 20]) Y1 (Xg rfl (Xg rfl Xm)) rfl (Yr p107 20 (by omega) _ R bs _ _ _ k521 (by omega) (SlLt.low1 hs hb520 hlo) (by first | exact hb | exact fun b h => hb b (List.mem_of_mem_take h)) (by first | omega | (rw [List.length_take]; omega))) ?_
   rintro _ w527 ⟨k522, rfl, hk523, hk524, kR525, hg526⟩
   have hb528 := grown_trans hb520 hg526
   refine Xd (o' := 4) Qm rfl rfl rfl ?_
   have k529 := (hS519.blk.grown hg526 (Xf (by omega)))
   refine Yc (v := .int .i64 k522) (cs' := #[.int .i64 1, .int .i64 0, .int .i64 0, .int .i64 0, .int .i64 k522, .slice (some ⟨B508, 0, none⟩) 0 cap509, .slice (some ⟨B512, 0, none⟩) 0 cap513, .int .i64 0]) X3 rfl rfl rfl k529 (Nat.le_of_ble_eq_true rfl) rfl ?_
   intro w530 hS531
   have hb532 := low1 hb528 hS531.grw (by omega)
   refine Xa ?_
   refine X1 ?_
   refine Xc (v := .pointer (some ⟨R, 0, none⟩)) rfl rfl ?_
   have k533 := (kR525.grown hS531.grw (Xf (by omega)))
   refine Xn (vs := [.pointer (some ⟨R, 0, none⟩), .int .i64 3]) Y1 (Xg rfl (Xg rfl Xm)) rfl (Yr (p107 + 1) 3 (by omega) _ R bs _ _ _ k533 (by omega) (SlLt.low1 hs hb532 hlo) (by first | exact hb | exact fun b h => hb b (List.mem_of_mem_take h)) (by first | omega | (rw [List.length_take]; omega))) ?_
   rintro _ w539 ⟨k534, rfl, hk535, hk536, kR537, hg538⟩
   have hb540 := grown_trans hb532 hg538
   refine Jg (c := k534 / 2) rfl rfl (by omega) (by omega) (by omega) rfl rfl ?_
   refine Xd (o' := 3) Z6 rfl rfl rfl ?_
   have k541 := (hS531.blk.grown hg538 (Xf (by omega)))
   refine Yc (v := .int .i64 (k534 / 2)) (cs' := #[.int .i64 1, .int .i64 0, .int .i64 0, .int .i64 (k534 / 2), .int .i64 k522, .slice (some ⟨B508, 0, none⟩) 0 cap509, .slice (some ⟨B512, 0, none⟩) 0 cap513, .int .i64 0]) X3 rfl rfl rfl k541 (Nat.le_of_ble_eq_true rfl) rfl ?_
   intro w542 hS543
   have hb544 := low1 hb540 hS543.grw (by omega)
   refine Xa ?_
   refine Yy ?_
   refine Xv ?_
   refine Xb ?_
   refine Xu (vs := [.int .i64 1, .int .i64 0, .int .i64 0, .int .i64 (k534 / 2), .int .i64 k522, .slice (some ⟨B508, 0, none⟩) 0 cap509, .slice (some ⟨B512, 0, none⟩) 0 cap513, .int .i64 0]) Y0 rfl rfl (hS543.blk.rangeL 0 8 rfl) rfl ?_
   have k545 := ((((((k504.grown0 hg507).grown hS519.grw (Xf (by omega))).grown hg526 (Xf (by omega))).grown hS531.grw (Xf (by omega))).grown hg538 (Xf (by omega))).grown hS543.grw (Xf (by omega)))
   refine Xz (vs := [.int .i64 1, .int .i64 0, .int .i64 0, .int .i64 (k534 / 2), .int .i64 k522, .slice (some ⟨B508, 0, none⟩) 0 cap509, .slice (some ⟨B512, 0, none⟩) 0 cap513, .int .i64 0]) (cs' := #[.int .i64 1, .int .i64 0, .int .i64 0, .int .i64 (k534 / 2), .int .i64 k522, .slice (some ⟨B508, 0, none⟩) 0 cap509, .slice (some ⟨B512, 0, none⟩) 0 cap513, .int .i64 0]) Y0 rfl rfl rfl (by simp [Value.oneCell']) k545 (Nat.le_of_ble_eq_true rfl) rfl ?_
   intro w546 hS547
   have hb548 := low1 hb544 hS547.grw (by omega)
   refine Xa ?_
   refine Xs ?_
   have k549 := ((((((hO515.grown hS519.grw (Xf (by omega))).grown hg526 (Xf (by omega))).grown hS531.grw (Xf (by omega))).grown hg538 (Xf (by omega))).grown hS543.grw (Xf (by omega))).grown hS547.grw (Xf (by omega)))
   have k550 := ((((((hO511.grown hS519.grw (Xf (by omega))).grown hg526 (Xf (by omega))).grown hS531.grw (Xf (by omega))).grown hg538 (Xf (by omega))).grown hS543.grw (Xf (by omega))).grown hS547.grw (Xf (by omega)))
   have k551 := ((kR537.grown hS543.grw (Xf (by omega))).grown hS547.grw (Xf (by omega)))
   refine ⟨.agg #[.int .i64 1, .int .i64 0, .int .i64 0, .int .i64 (k534 / 2), .int .i64 k522, .slice (some ⟨B508, 0, none⟩) 0 cap509, .slice (some ⟨B512, 0, none⟩) 0 cap513, .int .i64 0], Zx rfl (Yh (vs := [.int .i64 1, .int .i64 0, .int .i64 0, .int .i64 (k534 / 2), .int .i64 k522, .slice (some ⟨B508, 0, none⟩) 0 cap509, .slice (some ⟨B512, 0, none⟩) 0 cap513, .int .i64 0]) Y0 rfl rfl (hS547.blk.rangeL 0 8 rfl)), ⟨⟨1, ⟨0, 0⟩, k534 / 2, k522, ([] : List Rt), ([] : List Int), 0⟩, some ⟨B508, 0, none⟩, cap509, some ⟨B512, 0, none⟩, cap513⟩, (p107 + 1 + 1), rfl, ⟨OwnN.of k549 hlB512, ⟨([] : List Rt), OwnN.of k550 hlB508, rfl, ?_⟩, ?_, ?_, ⟨show (0 : Int) ≤ k534 / 2 by omega, show k534 / 2 ≤ (1 : Int) by omega⟩⟩, by omega, by omega, k551, hb548⟩
   ·
    intro x hx; first | (simp [zeros4] at hx; subst hx; exact ⟨by decide, by decide, by decide, by decide⟩) | simp at hx
   ·
    first | exact Nat.le_of_ble_eq_true rfl | omega | (simp only [List.length_nil]; omega)
   ·
    exact Nat.le_of_ble_eq_true rfl
 ·
  have h552 := Qx h118
  have h553 := of_decide_eq_false h552
  have h554 := Qy h118
  have h555 := of_decide_eq_false h554
  rcases Yb (newOk k l106 to) with h556 | h556
  ·
   have k557 := (hN103.blk.grown hg115 (Xf (by omega)))
   have h558 : thingOk (⟨k, l106, 0, 0, [], [], to⟩ : Th) = true := (Kb h118).symm.trans h556
   refine Xn (vs := [.int .i64 k, .agg #[.int .i64 l106.s, .int .i64 l106.v], .int .i64 to]) V3 (Xg rfl (Xg rfl (Xg rfl Xm))) rfl (Q9 k to l106 h118 h556 _) ?_
   rintro _ w559 ⟨B561, cap562, B565, cap566, rfl, hge563, hO564, hge567, hO568, ne_B561_B565, hg560⟩
   have hb569 := low0 hb117 hg560
   have hlB561 := Nat.le_trans hb117.size hge563
   have lt_R_B561 := Nat.lt_of_lt_of_le (kR114).lt hge563
   have lt_B101_B561 := Nat.lt_of_lt_of_le (k557).lt hge563
   have hlB565 := Nat.le_trans hb117.size hge567
   have lt_R_B565 := Nat.lt_of_lt_of_le (kR114).lt hge567
   have lt_B101_B565 := Nat.lt_of_lt_of_le (k557).lt hge567
   refine Xc (v := .tuple #[.agg #[.int .i64 k, .int .i64 l106.s, .int .i64 l106.v, .int .i64 0, .int .i64 0, .slice (some ⟨B561, 0, none⟩) 0 cap562, .slice (some ⟨B565, 0, none⟩) 0 cap566, .int .i64 to], .bool true]) rfl rfl ?_
   refine Yz (v := .agg #[.int .i64 k, .int .i64 l106.s, .int .i64 l106.v, .int .i64 0, .int .i64 0, .slice (some ⟨B561, 0, none⟩) 0 cap562, .slice (some ⟨B565, 0, none⟩) 0 cap566, .int .i64 to]) rfl rfl rfl ?_
   refine Yz (v := .bool true) rfl rfl rfl ?_
   refine Yj (cs := #[.int .i64 0, .int .i64 0, .int .i64 0, .int .i64 0, .int .i64 0, .slice none 0 0, .slice none 0 0, .int .i64 0]) Jn rfl rfl ?_
   intro B570 w571 hN572
   have hlB570 := Yf hN572 hb569
   have k573 := (kR114.grown0 hg560)
   have lt_R_B570 := Xq hN572 (k573).lt
   have k574 := (k557.grown0 hg560)
   have lt_B101_B570 := Xq hN572 (k574).lt
   have lt_B565_B570 := Xq hN572 (hO568).lt
   have lt_B561_B570 := Xq hN572 (hO564).lt
   have hb575 := low0 hb569 hN572.grw
   refine Xz (vs := [.int .i64 k, .int .i64 l106.s, .int .i64 l106.v, .int .i64 0, .int .i64 0, .slice (some ⟨B561, 0, none⟩) 0 cap562, .slice (some ⟨B565, 0, none⟩) 0 cap566, .int .i64 to]) (cs' := #[.int .i64 k, .int .i64 l106.s, .int .i64 l106.v, .int .i64 0, .int .i64 0, .slice (some ⟨B561, 0, none⟩) 0 cap562, .slice (some ⟨B565, 0, none⟩) 0 cap566, .int .i64 to]) Y0 rfl rfl rfl (by simp [Value.oneCell']) hN572.blk (Nat.le_of_ble_eq_true rfl) rfl ?_
   intro w576 hS577
   have hb578 := low1 hb575 hS577.grw (by omega)
   refine Xh (v := .bool true) rfl rfl ?_
   refine Xa ?_
   refine Xt ?_
   refine Xb ?_
   refine Xd (o' := 0) Yt rfl rfl rfl ?_
   refine Xi (v := .int .i64 k) X3 rfl (hS577.blk.cell rfl) rfl ?_
   refine X4 (q := decide (k = 0)) rfl rfl rfl rfl ?_
   refine Xa ?_
   refine Xw rfl (fun h579 => ?_) (fun h579 => ?_)
   ·
    have h580 := of_decide_eq_true h579
    refine X1 ?_
    refine Yw (ps := []) (v := .agg #[.int .i64 0, .int .i64 0]) X9 (by kernel_rfl) rfl ?_
    have k581 := ((k573.grown0 hN572.grw).grown hS577.grw (Xf (by omega)))
    have k582 := ((k574.grown0 hN572.grw).grown hS577.grw (Xf (by omega)))
    have k583 := ((hO568.grown0 hN572.grw).grown hS577.grw (Xf (by omega)))
    have k584 := ((hO564.grown0 hN572.grw).grown hS577.grw (Xf (by omega)))
    have h585 : thingOk (⟨1, ⟨0, 0⟩, 0, 0, [], [], 0⟩ : Th) = true := (Kb (by decide)).symm.trans (by decide)
    refine Xn (vs := [.int .i64 1, .agg #[.int .i64 0, .int .i64 0], .int .i64 0]) V3 (Xg rfl (Xg rfl (Xg rfl Xm))) rfl (Q9 1 0 ⟨0, 0⟩ (by decide) (by decide) _) ?_
    rintro _ w586 ⟨B588, cap589, B592, cap593, rfl, hge590, hO591, hge594, hO595, ne_B588_B592, hg587⟩
    have hb596 := low0 hb578 hg587
    have hlB588 := Nat.le_trans hb578.size hge590
    have lt_R_B588 := Nat.lt_of_lt_of_le (k581).lt hge590
    have lt_B101_B588 := Nat.lt_of_lt_of_le (k582).lt hge590
    have lt_B565_B588 := Nat.lt_of_lt_of_le (k583).lt hge590
    have lt_B561_B588 := Nat.lt_of_lt_of_le (k584).lt hge590
    have lt_B570_B588 := Nat.lt_of_lt_of_le (hS577.blk).lt hge590
    have hlB592 := Nat.le_trans hb578.size hge594
    have lt_R_B592 := Nat.lt_of_lt_of_le (k581).lt hge594
    have lt_B101_B592 := Nat.lt_of_lt_of_le (k582).lt hge594
    have lt_B565_B592 := Nat.lt_of_lt_of_le (k583).lt hge594
    have lt_B561_B592 := Nat.lt_of_lt_of_le (k584).lt hge594
    have lt_B570_B592 := Nat.lt_of_lt_of_le (hS577.blk).lt hge594
    refine Xc (v := .tuple #[.agg #[.int .i64 1, .int .i64 0, .int .i64 0, .int .i64 0, .int .i64 0, .slice (some ⟨B588, 0, none⟩) 0 cap589, .slice (some ⟨B592, 0, none⟩) 0 cap593, .int .i64 0], .bool true]) rfl rfl ?_
    refine Yz (v := .agg #[.int .i64 1, .int .i64 0, .int .i64 0, .int .i64 0, .int .i64 0, .slice (some ⟨B588, 0, none⟩) 0 cap589, .slice (some ⟨B592, 0, none⟩) 0 cap593, .int .i64 0]) rfl rfl rfl ?_
    refine Yz (v := .bool true) rfl rfl rfl ?_
    have k597 := (hS577.blk.grown0 hg587)
    refine Xz (vs := [.int .i64 1, .int .i64 0, .int .i64 0, .int .i64 0, .int .i64 0, .slice (some ⟨B588, 0, none⟩) 0 cap589, .slice (some ⟨B592, 0, none⟩) 0 cap593, .int .i64 0]) (cs' := #[.int .i64 1, .int .i64 0, .int .i64 0, .int .i64 0, .int .i64 0, .slice (some ⟨B588, 0, none⟩) 0 cap589, .slice (some ⟨B592, 0, none⟩) 0 cap593, .int .i64 0]) Y0 rfl rfl rfl (by simp [Value.oneCell']) k597 (Nat.le_of_ble_eq_true rfl) rfl ?_
    intro w598 hS599
    have hb600 := low1 hb596 hS599.grw (by omega)
    refine Xa ?_
    refine Xv ?_
    refine Xt ?_
    refine Xb ?_
    refine Xd (o' := 0) Yt rfl rfl rfl ?_
    refine Xi (v := .int .i64 1) X3 rfl (hS599.blk.cell rfl) rfl ?_
    refine Xa ?_
    refine Ye ?_
    refine Xb ?_
    refine X4 (q := true) rfl rfl (by decide) rfl ?_
    refine Xh (v := .bool true) rfl rfl ?_
    refine Xa ?_
    refine Zc rfl rfl ?_
    refine Xb ?_
    refine Xc (v := .pointer (some ⟨R, 0, none⟩)) rfl rfl ?_
    have k601 := ((k581.grown0 hg587).grown hS599.grw (Xf (by omega)))
    refine Xn (vs := [.pointer (some ⟨R, 0, none⟩), .int .i64 20]) Y1 (Xg rfl (Xg rfl Xm)) rfl (Yr p107 20 (by omega) _ R bs _ _ _ k601 (by omega) (SlLt.low1 hs hb600 hlo) (by first | exact hb | exact fun b h => hb b (List.mem_of_mem_take h)) (by first | omega | (rw [List.length_take]; omega))) ?_
    rintro _ w607 ⟨k602, rfl, hk603, hk604, kR605, hg606⟩
    have hb608 := grown_trans hb600 hg606
    refine Xd (o' := 4) Qm rfl rfl rfl ?_
    have k609 := (hS599.blk.grown hg606 (Xf (by omega)))
    refine Yc (v := .int .i64 k602) (cs' := #[.int .i64 1, .int .i64 0, .int .i64 0, .int .i64 0, .int .i64 k602, .slice (some ⟨B588, 0, none⟩) 0 cap589, .slice (some ⟨B592, 0, none⟩) 0 cap593, .int .i64 0]) X3 rfl rfl rfl k609 (Nat.le_of_ble_eq_true rfl) rfl ?_
    intro w610 hS611
    have hb612 := low1 hb608 hS611.grw (by omega)
    refine Xa ?_
    refine X1 ?_
    refine Xc (v := .pointer (some ⟨R, 0, none⟩)) rfl rfl ?_
    have k613 := (kR605.grown hS611.grw (Xf (by omega)))
    refine Xn (vs := [.pointer (some ⟨R, 0, none⟩), .int .i64 3]) Y1 (Xg rfl (Xg rfl Xm)) rfl (Yr (p107 + 1) 3 (by omega) _ R bs _ _ _ k613 (by omega) (SlLt.low1 hs hb612 hlo) (by first | exact hb | exact fun b h => hb b (List.mem_of_mem_take h)) (by first | omega | (rw [List.length_take]; omega))) ?_
    rintro _ w619 ⟨k614, rfl, hk615, hk616, kR617, hg618⟩
    have hb620 := grown_trans hb612 hg618
    refine Jg (c := k614 / 2) rfl rfl (by omega) (by omega) (by omega) rfl rfl ?_
    refine Xd (o' := 3) Z6 rfl rfl rfl ?_
    have k621 := (hS611.blk.grown hg618 (Xf (by omega)))
    refine Yc (v := .int .i64 (k614 / 2)) (cs' := #[.int .i64 1, .int .i64 0, .int .i64 0, .int .i64 (k614 / 2), .int .i64 k602, .slice (some ⟨B588, 0, none⟩) 0 cap589, .slice (some ⟨B592, 0, none⟩) 0 cap593, .int .i64 0]) X3 rfl rfl rfl k621 (Nat.le_of_ble_eq_true rfl) rfl ?_
    intro w622 hS623
    have hb624 := low1 hb620 hS623.grw (by omega)
    refine Xa ?_
    refine Yy ?_
    refine Xv ?_
    refine Xb ?_
    refine Xu (vs := [.int .i64 1, .int .i64 0, .int .i64 0, .int .i64 (k614 / 2), .int .i64 k602, .slice (some ⟨B588, 0, none⟩) 0 cap589, .slice (some ⟨B592, 0, none⟩) 0 cap593, .int .i64 0]) Y0 rfl rfl (hS623.blk.rangeL 0 8 rfl) rfl ?_
    have k625 := ((((((k582.grown0 hg587).grown hS599.grw (Xf (by omega))).grown hg606 (Xf (by omega))).grown hS611.grw (Xf (by omega))).grown hg618 (Xf (by omega))).grown hS623.grw (Xf (by omega)))
    refine Xz (vs := [.int .i64 1, .int .i64 0, .int .i64 0, .int .i64 (k614 / 2), .int .i64 k602, .slice (some ⟨B588, 0, none⟩) 0 cap589, .slice (some ⟨B592, 0, none⟩) 0 cap593, .int .i64 0]) (cs' := #[.int .i64 1, .int .i64 0, .int .i64 0, .int .i64 (k614 / 2), .int .i64 k602, .slice (some ⟨B588, 0, none⟩) 0 cap589, .slice (some ⟨B592, 0, none⟩) 0 cap593, .int .i64 0]) Y0 rfl rfl rfl (by simp [Value.oneCell']) k625 (Nat.le_of_ble_eq_true rfl) rfl ?_
    intro w626 hS627
    have hb628 := low1 hb624 hS627.grw (by omega)
    refine Xa ?_
    refine Xs ?_
    have k629 := ((((((hO595.grown hS599.grw (Xf (by omega))).grown hg606 (Xf (by omega))).grown hS611.grw (Xf (by omega))).grown hg618 (Xf (by omega))).grown hS623.grw (Xf (by omega))).grown hS627.grw (Xf (by omega)))
    have k630 := ((((((hO591.grown hS599.grw (Xf (by omega))).grown hg606 (Xf (by omega))).grown hS611.grw (Xf (by omega))).grown hg618 (Xf (by omega))).grown hS623.grw (Xf (by omega))).grown hS627.grw (Xf (by omega)))
    have k631 := ((kR617.grown hS623.grw (Xf (by omega))).grown hS627.grw (Xf (by omega)))
    refine ⟨.agg #[.int .i64 1, .int .i64 0, .int .i64 0, .int .i64 (k614 / 2), .int .i64 k602, .slice (some ⟨B588, 0, none⟩) 0 cap589, .slice (some ⟨B592, 0, none⟩) 0 cap593, .int .i64 0], Zx rfl (Yh (vs := [.int .i64 1, .int .i64 0, .int .i64 0, .int .i64 (k614 / 2), .int .i64 k602, .slice (some ⟨B588, 0, none⟩) 0 cap589, .slice (some ⟨B592, 0, none⟩) 0 cap593, .int .i64 0]) Y0 rfl rfl (hS627.blk.rangeL 0 8 rfl)), ⟨⟨1, ⟨0, 0⟩, k614 / 2, k602, ([] : List Rt), ([] : List Int), 0⟩, some ⟨B588, 0, none⟩, cap589, some ⟨B592, 0, none⟩, cap593⟩, (p107 + 1 + 1), rfl, ⟨OwnN.of k629 hlB592, ⟨([] : List Rt), OwnN.of k630 hlB588, rfl, ?_⟩, ?_, ?_, ⟨show (0 : Int) ≤ k614 / 2 by omega, show k614 / 2 ≤ (1 : Int) by omega⟩⟩, by omega, by omega, k631, hb628⟩
    ·
     intro x hx; first | (simp [zeros4] at hx; subst hx; exact ⟨by decide, by decide, by decide, by decide⟩) | simp at hx
    ·
     first | exact Nat.le_of_ble_eq_true rfl | omega | (simp only [List.length_nil]; omega)
    ·
     exact Nat.le_of_ble_eq_true rfl
   ·
    have h632 := of_decide_eq_false h579
    refine Xy ?_
    refine Xv ?_
    refine Xt ?_
    refine Xb ?_
    refine Xd (o' := 0) Yt rfl rfl rfl ?_
    refine Xi (v := .int .i64 k) X3 rfl (hS577.blk.cell rfl) rfl ?_
    refine Xa ?_
    refine Ye ?_
    refine Xb ?_
    refine X4 (q := decide (k = 1)) rfl rfl rfl rfl ?_
    refine Xh (v := .bool (decide (k = 1))) rfl rfl ?_
    refine Xa ?_
    refine Xw rfl (fun h633 => ?_) (fun h633 => ?_)
    ·
     have h634 := of_decide_eq_true h633
     refine Xb ?_
     refine Xc (v := .pointer (some ⟨R, 0, none⟩)) rfl rfl ?_
     have k635 := ((k573.grown0 hN572.grw).grown hS577.grw (Xf (by omega)))
     refine Xn (vs := [.pointer (some ⟨R, 0, none⟩), .int .i64 20]) Y1 (Xg rfl (Xg rfl Xm)) rfl (Yr p107 20 (by omega) _ R bs _ _ _ k635 (by omega) (SlLt.low1 hs hb578 hlo) (by first | exact hb | exact fun b h => hb b (List.mem_of_mem_take h)) (by first | omega | (rw [List.length_take]; omega))) ?_
     rintro _ w641 ⟨k636, rfl, hk637, hk638, kR639, hg640⟩
     have hb642 := grown_trans hb578 hg640
     refine Xd (o' := 4) Qm rfl rfl rfl ?_
     have k643 := (hS577.blk.grown hg640 (Xf (by omega)))
     refine Yc (v := .int .i64 k636) (cs' := #[.int .i64 k, .int .i64 l106.s, .int .i64 l106.v, .int .i64 0, .int .i64 k636, .slice (some ⟨B561, 0, none⟩) 0 cap562, .slice (some ⟨B565, 0, none⟩) 0 cap566, .int .i64 to]) X3 rfl rfl rfl k643 (Nat.le_of_ble_eq_true rfl) rfl ?_
     intro w644 hS645
     have hb646 := low1 hb642 hS645.grw (by omega)
     refine Xa ?_
     refine X1 ?_
     refine Xc (v := .pointer (some ⟨R, 0, none⟩)) rfl rfl ?_
     have k647 := (kR639.grown hS645.grw (Xf (by omega)))
     refine Xn (vs := [.pointer (some ⟨R, 0, none⟩), .int .i64 3]) Y1 (Xg rfl (Xg rfl Xm)) rfl (Yr (p107 + 1) 3 (by omega) _ R bs _ _ _ k647 (by omega) (SlLt.low1 hs hb646 hlo) (by first | exact hb | exact fun b h => hb b (List.mem_of_mem_take h)) (by first | omega | (rw [List.length_take]; omega))) ?_
     rintro _ w653 ⟨k648, rfl, hk649, hk650, kR651, hg652⟩
     have hb654 := grown_trans hb646 hg652
     refine Jg (c := k648 / 2) rfl rfl (by omega) (by omega) (by omega) rfl rfl ?_
     refine Xd (o' := 3) Z6 rfl rfl rfl ?_
     have k655 := (hS645.blk.grown hg652 (Xf (by omega)))
     refine Yc (v := .int .i64 (k648 / 2)) (cs' := #[.int .i64 k, .int .i64 l106.s, .int .i64 l106.v, .int .i64 (k648 / 2), .int .i64 k636, .slice (some ⟨B561, 0, none⟩) 0 cap562, .slice (some ⟨B565, 0, none⟩) 0 cap566, .int .i64 to]) X3 rfl rfl rfl k655 (Nat.le_of_ble_eq_true rfl) rfl ?_
     intro w656 hS657
     have hb658 := low1 hb654 hS657.grw (by omega)
     refine Xa ?_
     refine Yy ?_
     refine Xv ?_
     refine Xb ?_
     refine Xu (vs := [.int .i64 k, .int .i64 l106.s, .int .i64 l106.v, .int .i64 (k648 / 2), .int .i64 k636, .slice (some ⟨B561, 0, none⟩) 0 cap562, .slice (some ⟨B565, 0, none⟩) 0 cap566, .int .i64 to]) Y0 rfl rfl (hS657.blk.rangeL 0 8 rfl) rfl ?_
     have k659 := ((((((k574.grown0 hN572.grw).grown hS577.grw (Xf (by omega))).grown hg640 (Xf (by omega))).grown hS645.grw (Xf (by omega))).grown hg652 (Xf (by omega))).grown hS657.grw (Xf (by omega)))
     refine Xz (vs := [.int .i64 k, .int .i64 l106.s, .int .i64 l106.v, .int .i64 (k648 / 2), .int .i64 k636, .slice (some ⟨B561, 0, none⟩) 0 cap562, .slice (some ⟨B565, 0, none⟩) 0 cap566, .int .i64 to]) (cs' := #[.int .i64 k, .int .i64 l106.s, .int .i64 l106.v, .int .i64 (k648 / 2), .int .i64 k636, .slice (some ⟨B561, 0, none⟩) 0 cap562, .slice (some ⟨B565, 0, none⟩) 0 cap566, .int .i64 to]) Y0 rfl rfl rfl (by simp [Value.oneCell']) k659 (Nat.le_of_ble_eq_true rfl) rfl ?_
     intro w660 hS661
     have hb662 := low1 hb658 hS661.grw (by omega)
     refine Xa ?_
     refine Xs ?_
     have k663 := (((((((hO568.grown0 hN572.grw).grown hS577.grw (Xf (by omega))).grown hg640 (Xf (by omega))).grown hS645.grw (Xf (by omega))).grown hg652 (Xf (by omega))).grown hS657.grw (Xf (by omega))).grown hS661.grw (Xf (by omega)))
     have k664 := (((((((hO564.grown0 hN572.grw).grown hS577.grw (Xf (by omega))).grown hg640 (Xf (by omega))).grown hS645.grw (Xf (by omega))).grown hg652 (Xf (by omega))).grown hS657.grw (Xf (by omega))).grown hS661.grw (Xf (by omega)))
     have k665 := ((kR651.grown hS657.grw (Xf (by omega))).grown hS661.grw (Xf (by omega)))
     refine ⟨.agg #[.int .i64 k, .int .i64 l106.s, .int .i64 l106.v, .int .i64 (k648 / 2), .int .i64 k636, .slice (some ⟨B561, 0, none⟩) 0 cap562, .slice (some ⟨B565, 0, none⟩) 0 cap566, .int .i64 to], Zx rfl (Yh (vs := [.int .i64 k, .int .i64 l106.s, .int .i64 l106.v, .int .i64 (k648 / 2), .int .i64 k636, .slice (some ⟨B561, 0, none⟩) 0 cap562, .slice (some ⟨B565, 0, none⟩) 0 cap566, .int .i64 to]) Y0 rfl rfl (hS661.blk.rangeL 0 8 rfl)), ⟨⟨k, l106, k648 / 2, k636, ([] : List Rt), ([] : List Int), to⟩, some ⟨B561, 0, none⟩, cap562, some ⟨B565, 0, none⟩, cap566⟩, (p107 + 1 + 1), rfl, ⟨OwnN.of k663 hlB565, ⟨([] : List Rt), OwnN.of k664 hlB561, rfl, ?_⟩, ?_, ?_, ⟨show (0 : Int) ≤ k648 / 2 by omega, show k648 / 2 ≤ (1 : Int) by omega⟩⟩, by omega, by omega, k665, hb662⟩
     ·
      intro x hx; first | (simp [zeros4] at hx; subst hx; exact ⟨by decide, by decide, by decide, by decide⟩) | simp at hx
     ·
      first | exact Nat.le_of_ble_eq_true rfl | omega | (simp only [List.length_nil]; omega)
     ·
      exact Nat.le_of_ble_eq_true rfl
    ·
     have h666 := of_decide_eq_false h633
     refine Xb ?_
     refine X4 (q := decide (k = 4)) rfl rfl rfl rfl ?_
     refine Xh (v := .bool (decide (k = 4))) rfl rfl ?_
     refine Xa ?_
     refine Xw rfl (fun h667 => ?_) (fun h667 => ?_)
     ·
      have h668 := of_decide_eq_true h667
      refine Xb ?_
      refine Xc (v := .pointer (some ⟨R, 0, none⟩)) rfl rfl ?_
      have k669 := ((k573.grown0 hN572.grw).grown hS577.grw (Xf (by omega)))
      refine Xn (vs := [.pointer (some ⟨R, 0, none⟩), .int .i64 4]) Y1 (Xg rfl (Xg rfl Xm)) rfl (Yr p107 4 (by omega) _ R bs _ _ _ k669 (by omega) (SlLt.low1 hs hb578 hlo) (by first | exact hb | exact fun b h => hb b (List.mem_of_mem_take h)) (by first | omega | (rw [List.length_take]; omega))) ?_
      rintro _ w675 ⟨k670, rfl, hk671, hk672, kR673, hg674⟩
      have hb676 := grown_trans hb578 hg674
      refine Xh (v := .int .i64 k670) rfl rfl ?_
      refine Xa ?_
      refine Ye ?_
      have k677 := (((hO568.grown0 hN572.grw).grown hS577.grw (Xf (by omega))).grown hg674 (Xf (by omega)))
      have k678 := (((k574.grown0 hN572.grw).grown hS577.grw (Xf (by omega))).grown hg674 (Xf (by omega)))
      have k679 := (((hO564.grown0 hN572.grw).grown hS577.grw (Xf (by omega))).grown hg674 (Xf (by omega)))
      have k680 := (hS577.blk.grown hg674 (Xf (by omega)))
      refine Zd (fun mm f' w' => ∃ (n : Int) (p1 : Int) (Bq : Nat) (cq : Nat) (ys : List Int), mm = n.toNat ∧ (0 ≤ n ∧ n ≤ 3) ∧ (p107 + 1 ≤ p1 ∧ p1 ≤ (p107 + 1) + 3 - n) ∧ (ys.length : Int) ≤ 3 - n ∧ Dw.Own w' Bq 3 1 cq ys.length (ys.flatMap icell) ∧ w.heap.size ≤ Bq ∧ R ≠ Bq ∧ B101 ≠ Bq ∧ B561 ≠ Bq ∧ B570 ≠ Bq ∧ f' 9 = .int .i64 n ∧ f' 0 = .pointer (some ⟨R, 0, none⟩) ∧ f' 6 = .pointer (some ⟨B101, 0, none⟩) ∧ f' 7 = .pointer (some ⟨B570, 0, none⟩) ∧ w.grownBy w' (some R) ∧ Blk w' B101 43 #[.int .i64 0, .int .i64 0, .int .i64 0, .int .i64 0, .int .i64 0, .slice none 0 0, .slice none 0 0, .int .i64 0] ∧ Dw.Own w' B561 37 5 cap562 ([] : List Rt).length (([] : List Rt).flatMap Rt.cells) ∧ Blk w' B570 43 #[.int .i64 k, .int .i64 l106.s, .int .i64 l106.v, .int .i64 0, .int .i64 0, .slice (some ⟨B561, 0, none⟩) 0 cap562, .slice (some ⟨Bq, 0, none⟩) ys.length cq, .int .i64 to] ∧ Blk w' R 108 #[.slice a bs.length c, .int .i64 p1]) (k670.toNat) ⟨k670, (p107 + 1), B565, cap566, ([] : List Int), rfl, (by omega), (by omega), (by simp only [List.length_nil]; omega), k677, hlB565, (by omega), (by omega), (by omega), (by omega), rfl, rfl, rfl, rfl, hb676, k678, k679, k680, kR673⟩ ?_
      rintro mm f681 w682 ⟨n, p1, Bq, cq, ys, hm684, hnn, hpp, hyl, hOwn, hlBq, hne0, hne1, hne2, hne3, e685, e686, e687, e688, hb683, k689, k690, k691, k692⟩
      refine Xt ?_
      refine Xb ?_
      refine Xc (v := .int .i64 n) e685 rfl ?_
      refine Zq (q := decide (0 < n)) rfl rfl rfl rfl ?_
      refine Xa ?_
      refine Xw rfl (fun h693 => ?_) (fun h693 => ?_)
      ·
       have h694 := of_decide_eq_true h693
       refine Xy ?_
       refine Xv ?_
       refine Xt ?_
       refine Ye ?_
       refine Qs (m := 5) [[], [0], [], [2], [2, 3], [0, 1, 2, 3, 4], [0, 1, 2, 3, 4, 5], [0, 1, 2, 3, 4, 5, 6]] (fun S F w' => ∃ (k784 : Int) (B791 : Nat), w682.grownBy w' (some R) ∧ F 0 = .pointer (some ⟨R, 0, none⟩) ∧ F 6 = .pointer (some ⟨B101, 0, none⟩) ∧ F 7 = .pointer (some ⟨B570, 0, none⟩) ∧ F 9 = .int .i64 n ∧ (S 3 = false → Blk w' R 108 #[.slice a bs.length c, .int .i64 p1]) ∧ (S 0 = true → F 45 = .pointer (some ⟨B570, 6, none⟩)) ∧ (S 1 = true → F 46 = .slice (some ⟨Bq, 0, none⟩) ys.length cq) ∧ (S 2 = true → F 47 = .pointer (some ⟨R, 0, none⟩)) ∧ (S 3 = true → F 48 = .int .i64 k784 ∧ 0 ≤ k784 ∧ (k784 < 20 ∨ k784 = 0) ∧ Blk w' R 108 #[.slice a bs.length c, .int .i64 (p1 + 1)]) ∧ (S 4 = true → F 49 = .slice (some ⟨B791, 0, none⟩) 1 1 ∧ w.heap.size ≤ B791 ∧ Blk w' B791 3 (([k784] : List Int).flatMap icell).toArray ∧ B101 < B791 ∧ B561 < B791 ∧ B570 < B791 ∧ R < B791 ∧ Bq < B791 ∧ w682.heap.size ≤ B791)) Zi (by kernel_rfl) ⟨0, 0, Yl _, e686, e687, e688, e685, fun _ => (k692).grown0 (Yl _), fun h => X5 h, fun h => X5 h, fun h => X5 h, fun h => X5 h, fun h => X5 h⟩ ?_ ?_
       ·
        refine X6 (fun S F w799 hS hbef hcl hI => ?_) ?_
        ·
         obtain ⟨k784, B791, hi800, e801, e802, e803, e804, c_old_R, c_0, c_1, c_2, c_3, c_4⟩ := hI
         have hb805 := grown_trans hb683 hi800
         refine Xd (o' := 6) Qw e803 rfl rfl ?_
         exact Xa ⟨k784, B791, hi800, e801, e802, e803, e804, fun h => c_old_R h, fun _ => rfl, fun h => Xx 1 hS hcl rfl h, c_2, c_3, c_4⟩
        refine X6 (fun S F w806 hS hbef hcl hI => ?_) ?_
        ·
         obtain ⟨k784, B791, hi807, e808, e809, e810, e811, c_old_R, c_0, c_1, c_2, c_3, c_4⟩ := hI
         have hb812 := grown_trans hb683 hi807
         obtain e813 := c_0 (Xo 0 hbef rfl)
         have k814 := (k691.grown hi807 (Xf (by omega)))
         refine Xi (v := .slice (some ⟨Bq, 0, none⟩) ys.length cq) Jo e813 (k814.cell rfl) rfl ?_
         exact Xa ⟨k784, B791, hi807, e808, e809, e810, e811, fun h => c_old_R h, c_0, fun _ => rfl, c_2, c_3, c_4⟩
        refine X6 (fun S F w815 hS hbef hcl hI => ?_) ?_
        ·
         obtain ⟨k784, B791, hi816, e817, e818, e819, e820, c_old_R, c_0, c_1, c_2, c_3, c_4⟩ := hI
         have hb821 := grown_trans hb683 hi816
         refine Xc (v := .pointer (some ⟨R, 0, none⟩)) e817 rfl ?_
         exact Xa ⟨k784, B791, hi816, e817, e818, e819, e820, fun h => c_old_R h, c_0, c_1, fun _ => rfl, fun h => Xx 3 hS hcl rfl h, fun h => Xx 4 hS hcl rfl h⟩
        refine X6 (fun S F w822 hS hbef hcl hI => ?_) ?_
        ·
         obtain ⟨k784, B791, hi823, e824, e825, e826, e827, c_old_R, c_0, c_1, c_2, c_3, c_4⟩ := hI
         have hb828 := grown_trans hb683 hi823
         obtain e829 := c_2 (Xo 2 hbef rfl)
         refine Xn (vs := [.pointer (some ⟨R, 0, none⟩), .int .i64 20]) Y1 (Xg e829 (Xg rfl Xm)) rfl (Yr p1 20 (by omega) _ R bs _ _ _ (c_old_R hS) (by omega) (SlLt.low1 hs hb828 hlo) (by first | exact hb | exact fun b h => hb b (List.mem_of_mem_take h)) (by first | omega | (rw [List.length_take]; omega))) ?_
         rintro _ w835 ⟨k830, rfl, hk831, hk832, kR833, hg834⟩
         have hb836 := grown_trans hb828 hg834
         exact Xa ⟨k830, B791, (grown_trans hi823 hg834), e824, e825, e826, e827, fun h => Qh h, c_0, c_1, c_2, fun _ => ⟨rfl, hk831, hk832, kR833⟩, fun h => Xx 4 hS hcl rfl h⟩
        refine X6 (fun S F w837 hS hbef hcl hI => ?_) ?_
        ·
         obtain ⟨k784, B791, hi838, e839, e840, e841, e842, c_old_R, c_0, c_1, c_2, c_3, c_4⟩ := hI
         have hb843 := grown_trans hb683 hi838
         obtain e844 := c_2 (Xo 2 hbef rfl)
         obtain ⟨e845, hk785, hk786, ks3_R⟩ := c_3 (Xo 3 hbef rfl)
         refine X7 (ps := [(0, .int .i64 k784)]) (e := 3) (cs := (([k784] : List Int).flatMap icell).toArray) (Xp e845 X9) (fun _ => by kernel_rfl) rfl ?_
         intro B846 w847 hN848
         have hlB846 := Yf hN848 hb843
         have k849 := (k689.grown hi838 (Xf (by omega)))
         have lt_B101_B846 := Xq hN848 (k849).lt
         have k850 := (k690.grown hi838 (Xf (by omega)))
         have lt_B561_B846 := Xq hN848 (k850).lt
         have k851 := (k691.grown hi838 (Xf (by omega)))
         have lt_B570_B846 := Xq hN848 (k851).lt
         have k852 := (hOwn.grown hi838 (Xf (by omega)))
         have lt_Bq_B846 := Xq hN848 (k852).lt
         have lt_R_B846 := Xq hN848 (ks3_R).lt
         have hb853 := low0 hb843 hN848.grw
         exact Xa ⟨k784, B846, (low0 hi838 hN848.grw), e839, e840, e841, e842, fun hn => Qh ((Xo 3 hbef rfl).symm.trans hn), c_0, c_1, c_2, fun h => let ⟨y854, y855, y856, y857⟩ := c_3 h; ⟨y854, y855, y856, (y857).grown0 hN848.grw⟩, fun _ => ⟨rfl, hlB846, hN848.blk, lt_B101_B846, lt_B561_B846, lt_B570_B846, (by omega), lt_Bq_B846, (Nat.le_trans hi838.size (Nat.le_of_eq hN848.eq.symm))⟩⟩
        exact Q5
       ·
        intro S F w858 hall hI
        obtain ⟨k784, B791, hi859, e860, e861, e862, e863, c_old_R, c_0, c_1, c_2, c_3, c_4⟩ := hI
        have hb864 := grown_trans hb683 hi859
        obtain e865 := c_0 (hall 0 (by decide))
        obtain e866 := c_1 (hall 1 (by decide))
        obtain e867 := c_2 (hall 2 (by decide))
        obtain ⟨e868, hk785, hk786, ks3_R⟩ := c_3 (hall 3 (by decide))
        obtain ⟨e869, hlB791, kb_B791, lt_B101_B791, lt_B561_B791, lt_B570_B791, lt_R_B791, lt_Bq_B791, hk_B791⟩ := c_4 (hall 4 (by decide))
        have k870 := (hOwn.grown hi859 (Xf (by omega)))
        have k871 := (k689.grown hi859 (Xf (by omega)))
        have k872 := (k690.grown hi859 (Xf (by omega)))
        have k873 := (k691.grown hi859 (Xf (by omega)))
        refine Kq (g := icell) (ys := ys) (zs := ([k784] : List Int)) Lm rfl Ys (by omega) Ut e866 e869 k870 (Qf Ys kb_B791) (by simp only [List.length_cons, List.length_nil]; omega) (by omega) rfl ?_
        intro B874 cap875 w876 hO877 hg878 hor879
        have hlB874 : w.heap.size ≤ B874 := by rcases hor879 with h | h; (rw [h]; exact hlBq); (rw [h]; exact hb864.size)
        have ne_B101_B874 : B101 ≠ B874 := by have h := (k871).lt; omega
        have ne_B561_B874 : B561 ≠ B874 := by have h := (k872).lt; omega
        have ne_B570_B874 : B570 ≠ B874 := by have h := (k873).lt; omega
        have ne_R_B874 : R ≠ B874 := by have h := (ks3_R).lt; omega
        have ne_B791_B874 : B791 ≠ B874 := by have h := (kb_B791).lt; omega
        have hb880 := low1 hb864 hg878 (by omega)
        refine Xd (o' := 6) Qw e862 rfl rfl ?_
        have k881 := (k873.grown hg878 (Xf (by omega)))
        refine Yc (v := .slice (some ⟨B874, 0, none⟩) ((ys ++ ([k784] : List Int)).length) cap875) (cs' := #[.int .i64 k, .int .i64 l106.s, .int .i64 l106.v, .int .i64 0, .int .i64 0, .slice (some ⟨B561, 0, none⟩) 0 cap562, .slice (some ⟨B874, 0, none⟩) ((ys ++ ([k784] : List Int)).length) cap875, .int .i64 to]) Jo rfl rfl rfl k881 (Nat.le_of_ble_eq_true rfl) rfl ?_
        intro w882 hS883
        have hb884 := low1 hb880 hS883.grw (by omega)
        refine Xa ?_
        refine Yy ?_
        refine Xv ?_
        refine X1 ?_
        refine Xc (v := .int .i64 n) e863 rfl ?_
        refine Y3 (c := n - 1) rfl rfl (by omega) (by omega) (by omega) rfl ?_
        refine Xh (v := .int .i64 (n - 1)) rfl rfl ?_
        refine Xa ?_
        refine Xv ?_
        have k885 := (hO877.grown hS883.grw (Xf (by omega)))
        have k886 := ((k871.grown hg878 (Xf (by omega))).grown hS883.grw (Xf (by omega)))
        have k887 := ((k872.grown hg878 (Xf (by omega))).grown hS883.grw (Xf (by omega)))
        have k888 := ((ks3_R.grown hg878 (Xf (by omega))).grown hS883.grw (Xf (by omega)))
        exact ⟨(n - 1).toNat, by omega, (n - 1), (p1 + 1), B874, cap875, (ys ++ ([k784] : List Int)), rfl, (by omega), (by omega), (by simp only [List.length_append, List.length_cons, List.length_nil]; omega), k885, hlB874, (by omega), (by omega), (by omega), (by omega), rfl, e860, e861, e862, hb884, k886, k887, hS883.blk, k888⟩
      ·
       have h889 := of_decide_eq_false h693
       refine Y5 ?_
       refine Y2 ?_
       refine Y2 ?_
       refine Z1 ?_
       refine Yy ?_
       refine Xv ?_
       refine Xb ?_
       refine Xu (vs := [.int .i64 k, .int .i64 l106.s, .int .i64 l106.v, .int .i64 0, .int .i64 0, .slice (some ⟨B561, 0, none⟩) 0 cap562, .slice (some ⟨Bq, 0, none⟩) ys.length cq, .int .i64 to]) Y0 e688 rfl (k691.rangeL 0 8 rfl) rfl ?_
       refine Xz (vs := [.int .i64 k, .int .i64 l106.s, .int .i64 l106.v, .int .i64 0, .int .i64 0, .slice (some ⟨B561, 0, none⟩) 0 cap562, .slice (some ⟨Bq, 0, none⟩) ys.length cq, .int .i64 to]) (cs' := #[.int .i64 k, .int .i64 l106.s, .int .i64 l106.v, .int .i64 0, .int .i64 0, .slice (some ⟨B561, 0, none⟩) 0 cap562, .slice (some ⟨Bq, 0, none⟩) ys.length cq, .int .i64 to]) Y0 e687 rfl rfl (by simp [Value.oneCell']) k689 (Nat.le_of_ble_eq_true rfl) rfl ?_
       intro w890 hS891
       have hb892 := low1 hb683 hS891.grw (by omega)
       refine Xa ?_
       refine Xs ?_
       have k893 := (hOwn.grown hS891.grw (Xf (by omega)))
       have k894 := (k690.grown hS891.grw (Xf (by omega)))
       have k895 := (k692.grown hS891.grw (Xf (by omega)))
       refine ⟨.agg #[.int .i64 k, .int .i64 l106.s, .int .i64 l106.v, .int .i64 0, .int .i64 0, .slice (some ⟨B561, 0, none⟩) 0 cap562, .slice (some ⟨Bq, 0, none⟩) ys.length cq, .int .i64 to], Zx rfl (Yh (vs := [.int .i64 k, .int .i64 l106.s, .int .i64 l106.v, .int .i64 0, .int .i64 0, .slice (some ⟨B561, 0, none⟩) 0 cap562, .slice (some ⟨Bq, 0, none⟩) ys.length cq, .int .i64 to]) Y0 e687 rfl (hS891.blk.rangeL 0 8 rfl)), ⟨⟨k, l106, 0, 0, ([] : List Rt), ys, to⟩, some ⟨B561, 0, none⟩, cap562, some ⟨Bq, 0, none⟩, cq⟩, p1, rfl, ⟨OwnN.of k893 hlBq, ⟨([] : List Rt), OwnN.of k894 hlB561, rfl, ?_⟩, ?_, ?_, ⟨show (0 : Int) ≤ 0 by omega, show 0 ≤ (1 : Int) by omega⟩⟩, by omega, by omega, k895, hb892⟩
       ·
        intro x hx; first | (simp [zeros4] at hx; subst hx; exact ⟨by decide, by decide, by decide, by decide⟩) | simp at hx
       ·
        first | exact Nat.le_of_ble_eq_true rfl | omega | (simp only [List.length_nil]; omega)
       ·
        exact Nat.le_of_ble_eq_true rfl
     ·
      have h896 := of_decide_eq_false h667
      refine Xb ?_
      refine X4 (q := decide (k = 3)) rfl rfl rfl rfl ?_
      refine Xh (v := .bool (decide (k = 3))) rfl rfl ?_
      refine Xa ?_
      refine Zr rfl h554 ?_
      refine Xy ?_
      refine Yy ?_
      refine Xv ?_
      refine Xb ?_
      refine Xu (vs := [.int .i64 k, .int .i64 l106.s, .int .i64 l106.v, .int .i64 0, .int .i64 0, .slice (some ⟨B561, 0, none⟩) 0 cap562, .slice (some ⟨B565, 0, none⟩) 0 cap566, .int .i64 to]) Y0 rfl rfl (hS577.blk.rangeL 0 8 rfl) rfl ?_
      have k897 := ((k574.grown0 hN572.grw).grown hS577.grw (Xf (by omega)))
      refine Xz (vs := [.int .i64 k, .int .i64 l106.s, .int .i64 l106.v, .int .i64 0, .int .i64 0, .slice (some ⟨B561, 0, none⟩) 0 cap562, .slice (some ⟨B565, 0, none⟩) 0 cap566, .int .i64 to]) (cs' := #[.int .i64 k, .int .i64 l106.s, .int .i64 l106.v, .int .i64 0, .int .i64 0, .slice (some ⟨B561, 0, none⟩) 0 cap562, .slice (some ⟨B565, 0, none⟩) 0 cap566, .int .i64 to]) Y0 rfl rfl rfl (by simp [Value.oneCell']) k897 (Nat.le_of_ble_eq_true rfl) rfl ?_
      intro w898 hS899
      have hb900 := low1 hb578 hS899.grw (by omega)
      refine Xa ?_
      refine Xs ?_
      have k901 := (((hO568.grown0 hN572.grw).grown hS577.grw (Xf (by omega))).grown hS899.grw (Xf (by omega)))
      have k902 := (((hO564.grown0 hN572.grw).grown hS577.grw (Xf (by omega))).grown hS899.grw (Xf (by omega)))
      have k903 := (((k573.grown0 hN572.grw).grown hS577.grw (Xf (by omega))).grown hS899.grw (Xf (by omega)))
      refine ⟨.agg #[.int .i64 k, .int .i64 l106.s, .int .i64 l106.v, .int .i64 0, .int .i64 0, .slice (some ⟨B561, 0, none⟩) 0 cap562, .slice (some ⟨B565, 0, none⟩) 0 cap566, .int .i64 to], Zx rfl (Yh (vs := [.int .i64 k, .int .i64 l106.s, .int .i64 l106.v, .int .i64 0, .int .i64 0, .slice (some ⟨B561, 0, none⟩) 0 cap562, .slice (some ⟨B565, 0, none⟩) 0 cap566, .int .i64 to]) Y0 rfl rfl (hS899.blk.rangeL 0 8 rfl)), ⟨⟨k, l106, 0, 0, ([] : List Rt), ([] : List Int), to⟩, some ⟨B561, 0, none⟩, cap562, some ⟨B565, 0, none⟩, cap566⟩, p107, rfl, ⟨OwnN.of k901 hlB565, ⟨([] : List Rt), OwnN.of k902 hlB561, rfl, ?_⟩, ?_, ?_, ⟨show (0 : Int) ≤ 0 by omega, show 0 ≤ (1 : Int) by omega⟩⟩, by omega, by omega, k903, hb900⟩
      ·
       intro x hx; first | (simp [zeros4] at hx; subst hx; exact ⟨by decide, by decide, by decide, by decide⟩) | simp at hx
      ·
       first | exact Nat.le_of_ble_eq_true rfl | omega | (simp only [List.length_nil]; omega)
      ·
       exact Nat.le_of_ble_eq_true rfl
  ·
   have k904 := (hN103.blk.grown hg115 (Xf (by omega)))
   have h905 : thingOk (⟨k, l106, 0, 0, [], [], to⟩ : Th) = false := (Kb h118).symm.trans h556
   refine Xn (vs := [.int .i64 k, .agg #[.int .i64 l106.s, .int .i64 l106.v], .int .i64 to]) V3 (Xg rfl (Xg rfl (Xg rfl Xm))) rfl (W1 k to l106 h118 h556 _) ?_
   rintro _ w906 ⟨rfl, hg907⟩
   have hb908 := low0 hb117 hg907
   refine Xc (v := .tuple #[.agg #[.int .i64 0, .int .i64 0, .int .i64 0, .int .i64 0, .int .i64 0, .slice none 0 0, .slice none 0 0, .int .i64 0], .bool false]) rfl rfl ?_
   refine Yz (v := .agg #[.int .i64 0, .int .i64 0, .int .i64 0, .int .i64 0, .int .i64 0, .slice none 0 0, .slice none 0 0, .int .i64 0]) rfl rfl rfl ?_
   refine Yz (v := .bool false) rfl rfl rfl ?_
   refine Yj (cs := #[.int .i64 0, .int .i64 0, .int .i64 0, .int .i64 0, .int .i64 0, .slice none 0 0, .slice none 0 0, .int .i64 0]) Jn rfl rfl ?_
   intro B909 w910 hN911
   have hlB909 := Yf hN911 hb908
   have k912 := (kR114.grown0 hg907)
   have lt_R_B909 := Xq hN911 (k912).lt
   have k913 := (k904.grown0 hg907)
   have lt_B101_B909 := Xq hN911 (k913).lt
   have hb914 := low0 hb908 hN911.grw
   refine Xz (vs := [.int .i64 0, .int .i64 0, .int .i64 0, .int .i64 0, .int .i64 0, .slice none 0 0, .slice none 0 0, .int .i64 0]) (cs' := #[.int .i64 0, .int .i64 0, .int .i64 0, .int .i64 0, .int .i64 0, .slice none 0 0, .slice none 0 0, .int .i64 0]) Y0 rfl rfl rfl (by simp [Value.oneCell']) hN911.blk (Nat.le_of_ble_eq_true rfl) rfl ?_
   intro w915 hS916
   have hb917 := low1 hb914 hS916.grw (by omega)
   refine Xh (v := .bool false) rfl rfl ?_
   refine Xa ?_
   refine Xt ?_
   refine Xb ?_
   refine Xd (o' := 0) Yt rfl rfl rfl ?_
   refine Xi (v := .int .i64 0) X3 rfl (hS916.blk.cell rfl) rfl ?_
   refine X4 (q := true) rfl rfl (by decide) rfl ?_
   refine Xa ?_
   refine Zc rfl rfl ?_
   refine X1 ?_
   refine Yw (ps := []) (v := .agg #[.int .i64 0, .int .i64 0]) X9 (by kernel_rfl) rfl ?_
   have k918 := ((k912.grown0 hN911.grw).grown hS916.grw (Xf (by omega)))
   have k919 := ((k913.grown0 hN911.grw).grown hS916.grw (Xf (by omega)))
   have h920 : thingOk (⟨1, ⟨0, 0⟩, 0, 0, [], [], 0⟩ : Th) = true := (Kb (by decide)).symm.trans (by decide)
   refine Xn (vs := [.int .i64 1, .agg #[.int .i64 0, .int .i64 0], .int .i64 0]) V3 (Xg rfl (Xg rfl (Xg rfl Xm))) rfl (Q9 1 0 ⟨0, 0⟩ (by decide) (by decide) _) ?_
   rintro _ w921 ⟨B923, cap924, B927, cap928, rfl, hge925, hO926, hge929, hO930, ne_B923_B927, hg922⟩
   have hb931 := low0 hb917 hg922
   have hlB923 := Nat.le_trans hb917.size hge925
   have lt_R_B923 := Nat.lt_of_lt_of_le (k918).lt hge925
   have lt_B101_B923 := Nat.lt_of_lt_of_le (k919).lt hge925
   have lt_B909_B923 := Nat.lt_of_lt_of_le (hS916.blk).lt hge925
   have hlB927 := Nat.le_trans hb917.size hge929
   have lt_R_B927 := Nat.lt_of_lt_of_le (k918).lt hge929
   have lt_B101_B927 := Nat.lt_of_lt_of_le (k919).lt hge929
   have lt_B909_B927 := Nat.lt_of_lt_of_le (hS916.blk).lt hge929
   refine Xc (v := .tuple #[.agg #[.int .i64 1, .int .i64 0, .int .i64 0, .int .i64 0, .int .i64 0, .slice (some ⟨B923, 0, none⟩) 0 cap924, .slice (some ⟨B927, 0, none⟩) 0 cap928, .int .i64 0], .bool true]) rfl rfl ?_
   refine Yz (v := .agg #[.int .i64 1, .int .i64 0, .int .i64 0, .int .i64 0, .int .i64 0, .slice (some ⟨B923, 0, none⟩) 0 cap924, .slice (some ⟨B927, 0, none⟩) 0 cap928, .int .i64 0]) rfl rfl rfl ?_
   refine Yz (v := .bool true) rfl rfl rfl ?_
   have k932 := (hS916.blk.grown0 hg922)
   refine Xz (vs := [.int .i64 1, .int .i64 0, .int .i64 0, .int .i64 0, .int .i64 0, .slice (some ⟨B923, 0, none⟩) 0 cap924, .slice (some ⟨B927, 0, none⟩) 0 cap928, .int .i64 0]) (cs' := #[.int .i64 1, .int .i64 0, .int .i64 0, .int .i64 0, .int .i64 0, .slice (some ⟨B923, 0, none⟩) 0 cap924, .slice (some ⟨B927, 0, none⟩) 0 cap928, .int .i64 0]) Y0 rfl rfl rfl (by simp [Value.oneCell']) k932 (Nat.le_of_ble_eq_true rfl) rfl ?_
   intro w933 hS934
   have hb935 := low1 hb931 hS934.grw (by omega)
   refine Xa ?_
   refine Xv ?_
   refine Xt ?_
   refine Xb ?_
   refine Xd (o' := 0) Yt rfl rfl rfl ?_
   refine Xi (v := .int .i64 1) X3 rfl (hS934.blk.cell rfl) rfl ?_
   refine Xa ?_
   refine Ye ?_
   refine Xb ?_
   refine X4 (q := true) rfl rfl (by decide) rfl ?_
   refine Xh (v := .bool true) rfl rfl ?_
   refine Xa ?_
   refine Zc rfl rfl ?_
   refine Xb ?_
   refine Xc (v := .pointer (some ⟨R, 0, none⟩)) rfl rfl ?_
   have k936 := ((k918.grown0 hg922).grown hS934.grw (Xf (by omega)))
   refine Xn (vs := [.pointer (some ⟨R, 0, none⟩), .int .i64 20]) Y1 (Xg rfl (Xg rfl Xm)) rfl (Yr p107 20 (by omega) _ R bs _ _ _ k936 (by omega) (SlLt.low1 hs hb935 hlo) (by first | exact hb | exact fun b h => hb b (List.mem_of_mem_take h)) (by first | omega | (rw [List.length_take]; omega))) ?_
   rintro _ w942 ⟨k937, rfl, hk938, hk939, kR940, hg941⟩
   have hb943 := grown_trans hb935 hg941
   refine Xd (o' := 4) Qm rfl rfl rfl ?_
   have k944 := (hS934.blk.grown hg941 (Xf (by omega)))
   refine Yc (v := .int .i64 k937) (cs' := #[.int .i64 1, .int .i64 0, .int .i64 0, .int .i64 0, .int .i64 k937, .slice (some ⟨B923, 0, none⟩) 0 cap924, .slice (some ⟨B927, 0, none⟩) 0 cap928, .int .i64 0]) X3 rfl rfl rfl k944 (Nat.le_of_ble_eq_true rfl) rfl ?_
   intro w945 hS946
   have hb947 := low1 hb943 hS946.grw (by omega)
   refine Xa ?_
   refine X1 ?_
   refine Xc (v := .pointer (some ⟨R, 0, none⟩)) rfl rfl ?_
   have k948 := (kR940.grown hS946.grw (Xf (by omega)))
   refine Xn (vs := [.pointer (some ⟨R, 0, none⟩), .int .i64 3]) Y1 (Xg rfl (Xg rfl Xm)) rfl (Yr (p107 + 1) 3 (by omega) _ R bs _ _ _ k948 (by omega) (SlLt.low1 hs hb947 hlo) (by first | exact hb | exact fun b h => hb b (List.mem_of_mem_take h)) (by first | omega | (rw [List.length_take]; omega))) ?_
   rintro _ w954 ⟨k949, rfl, hk950, hk951, kR952, hg953⟩
   have hb955 := grown_trans hb947 hg953
   refine Jg (c := k949 / 2) rfl rfl (by omega) (by omega) (by omega) rfl rfl ?_
   refine Xd (o' := 3) Z6 rfl rfl rfl ?_
   have k956 := (hS946.blk.grown hg953 (Xf (by omega)))
   refine Yc (v := .int .i64 (k949 / 2)) (cs' := #[.int .i64 1, .int .i64 0, .int .i64 0, .int .i64 (k949 / 2), .int .i64 k937, .slice (some ⟨B923, 0, none⟩) 0 cap924, .slice (some ⟨B927, 0, none⟩) 0 cap928, .int .i64 0]) X3 rfl rfl rfl k956 (Nat.le_of_ble_eq_true rfl) rfl ?_
   intro w957 hS958
   have hb959 := low1 hb955 hS958.grw (by omega)
   refine Xa ?_
   refine Yy ?_
   refine Xv ?_
   refine Xb ?_
   refine Xu (vs := [.int .i64 1, .int .i64 0, .int .i64 0, .int .i64 (k949 / 2), .int .i64 k937, .slice (some ⟨B923, 0, none⟩) 0 cap924, .slice (some ⟨B927, 0, none⟩) 0 cap928, .int .i64 0]) Y0 rfl rfl (hS958.blk.rangeL 0 8 rfl) rfl ?_
   have k960 := ((((((k919.grown0 hg922).grown hS934.grw (Xf (by omega))).grown hg941 (Xf (by omega))).grown hS946.grw (Xf (by omega))).grown hg953 (Xf (by omega))).grown hS958.grw (Xf (by omega)))
   refine Xz (vs := [.int .i64 1, .int .i64 0, .int .i64 0, .int .i64 (k949 / 2), .int .i64 k937, .slice (some ⟨B923, 0, none⟩) 0 cap924, .slice (some ⟨B927, 0, none⟩) 0 cap928, .int .i64 0]) (cs' := #[.int .i64 1, .int .i64 0, .int .i64 0, .int .i64 (k949 / 2), .int .i64 k937, .slice (some ⟨B923, 0, none⟩) 0 cap924, .slice (some ⟨B927, 0, none⟩) 0 cap928, .int .i64 0]) Y0 rfl rfl rfl (by simp [Value.oneCell']) k960 (Nat.le_of_ble_eq_true rfl) rfl ?_
   intro w961 hS962
   have hb963 := low1 hb959 hS962.grw (by omega)
   refine Xa ?_
   refine Xs ?_
   have k964 := ((((((hO930.grown hS934.grw (Xf (by omega))).grown hg941 (Xf (by omega))).grown hS946.grw (Xf (by omega))).grown hg953 (Xf (by omega))).grown hS958.grw (Xf (by omega))).grown hS962.grw (Xf (by omega)))
   have k965 := ((((((hO926.grown hS934.grw (Xf (by omega))).grown hg941 (Xf (by omega))).grown hS946.grw (Xf (by omega))).grown hg953 (Xf (by omega))).grown hS958.grw (Xf (by omega))).grown hS962.grw (Xf (by omega)))
   have k966 := ((kR952.grown hS958.grw (Xf (by omega))).grown hS962.grw (Xf (by omega)))
   refine ⟨.agg #[.int .i64 1, .int .i64 0, .int .i64 0, .int .i64 (k949 / 2), .int .i64 k937, .slice (some ⟨B923, 0, none⟩) 0 cap924, .slice (some ⟨B927, 0, none⟩) 0 cap928, .int .i64 0], Zx rfl (Yh (vs := [.int .i64 1, .int .i64 0, .int .i64 0, .int .i64 (k949 / 2), .int .i64 k937, .slice (some ⟨B923, 0, none⟩) 0 cap924, .slice (some ⟨B927, 0, none⟩) 0 cap928, .int .i64 0]) Y0 rfl rfl (hS962.blk.rangeL 0 8 rfl)), ⟨⟨1, ⟨0, 0⟩, k949 / 2, k937, ([] : List Rt), ([] : List Int), 0⟩, some ⟨B923, 0, none⟩, cap924, some ⟨B927, 0, none⟩, cap928⟩, (p107 + 1 + 1), rfl, ⟨OwnN.of k964 hlB927, ⟨([] : List Rt), OwnN.of k965 hlB923, rfl, ?_⟩, ?_, ?_, ⟨show (0 : Int) ≤ k949 / 2 by omega, show k949 / 2 ≤ (1 : Int) by omega⟩⟩, by omega, by omega, k966, hb963⟩
   ·
    intro x hx; first | (simp [zeros4] at hx; subst hx; exact ⟨by decide, by decide, by decide, by decide⟩) | simp at hx
   ·
    first | exact Nat.le_of_ble_eq_true rfl | omega | (simp only [List.length_nil]; omega)
   ·
    exact Nat.le_of_ble_eq_true rfl
theorem Uy (p : Int) (hp : 0 ≤ p ∧ p ≤ 999999990000) (lo R : Nat) (bs : List Int) (a : Option Addr) (c : Nat) (w : World) (hR : Blk w R 108 #[.slice a bs.length c, .int .i64 p]) (hlo : lo ≤ R) (hs : SlLt lo w a 1 (bs.map bcell)) (hb : ∀ b ∈ bs, 0 ≤ b ∧ b ≤ 255) (hn : bs.length ≤ 1048576) : CallsR Tryd.prog 62 #[.pointer (some ⟨R, 0, none⟩)] w (fun v w' => ∃ (B cap : Nat) (ms : List MTh) (p' : Int), v = .slice (some ⟨B, 0, none⟩) ms.length cap ∧ TabG w.heap.size w' (some ⟨B, 0, none⟩) ms ∧ Small ms ∧ (3 ≤ ms.length ∧ ms.length ≤ 8) ∧ p ≤ p' ∧ p' ≤ p + 600 ∧ Blk w' R 108 #[.slice a bs.length c, .int .i64 p'] ∧ w.grownBy w' (some R)) := by
 refine X0 (n := 142) Tryd.func62 rfl Tryd.ntmps62 rfl ?_
 have hb0 := World.grownBy.refl w (some R)
 have hRlt := hR.lt
 refine Xb ?_
 refine Xh (v := .slice none 0 0) rfl rfl ?_
 refine Xa ?_
 refine Xb ?_
 refine X7 (ps := [(0, .int .i64 1), (1, .int .i64 3), (2, .int .i64 3)]) (e := 3) (cs := (([1, 3, 3] : List Int).flatMap icell).toArray) (Xp rfl (Xp rfl (Xp rfl X9))) (fun _ => by kernel_rfl) rfl ?_
 intro B101 w102 hN103
 have hlB101 := Yf hN103 hb0
 have lt_R_B101 := Xq hN103 (hR).lt
 have hb104 := low0 hb0 hN103.grw
 refine Xh (v := .slice (some ⟨B101, 0, none⟩) 3 3) rfl rfl ?_
 refine Xa ?_
 refine Xt ?_
 refine Xb ?_
 refine Xc (v := .pointer (some ⟨R, 0, none⟩)) rfl rfl ?_
 have k105 := (hR.grown0 hN103.grw)
 refine Xn (vs := [.pointer (some ⟨R, 0, none⟩), .int .i64 6]) Y1 (Xg rfl (Xg rfl Xm)) rfl (Yr p 6 (by omega) _ R bs _ _ _ k105 (by omega) (SlLt.low1 hs hb104 hlo) (by first | exact hb | exact fun b h => hb b (List.mem_of_mem_take h)) (by first | omega | (rw [List.length_take]; omega))) ?_
 rintro _ w111 ⟨k106, rfl, hk107, hk108, kR109, hg110⟩
 have hb112 := grown_trans hb104 hg110
 refine Xh (v := .int .i64 k106) rfl rfl ?_
 refine Xa ?_
 refine Ye ?_
 have k113 := (hN103.blk.grown hg110 (Xf (by omega)))
 refine Zd (fun mm f' w' => ∃ (n : Int) (p1 : Int) (Bk : Nat) (ck : Nat) (ks : List Int), mm = n.toNat ∧ (0 ≤ n ∧ n ≤ 5) ∧ (p ≤ p1 ∧ p1 ≤ p + 6 - n) ∧ (3 ≤ ks.length ∧ (ks.length : Int) ≤ 8 - n) ∧ (∀ y ∈ ks, 1 ≤ y ∧ y ≤ 5) ∧ Dw.Own w' Bk 3 1 ck ks.length (ks.flatMap icell) ∧ w.heap.size ≤ Bk ∧ R ≠ Bk ∧ f' 3 = .slice (some ⟨Bk, 0, none⟩) ks.length ck ∧ f' 4 = .int .i64 n ∧ f' 0 = .pointer (some ⟨R, 0, none⟩) ∧ f' 2 = .slice none 0 0 ∧ w.grownBy w' (some R) ∧ Blk w' R 108 #[.slice a bs.length c, .int .i64 p1]) (k106.toNat) ⟨k106, (p + 1), B101, 3, ([1, 3, 3] : List Int), rfl, (by omega), (by omega), (by simp only [List.length_nil, List.length_cons]; omega), (by intro y hy; simp at hy; omega), (Own.rows Ys k113 (by simp)), hlB101, (by omega), rfl, rfl, rfl, rfl, hb112, kR109⟩ ?_
 rintro mm f114 w115 ⟨n, p1, Bk, ck, ks, hm117, hnn, hpp, hkl, hks, hOk, hlBk, hne0, e118, e119, e120, e121, hb116, k122⟩
 refine Xt ?_
 refine Xb ?_
 refine Xc (v := .int .i64 n) e119 rfl ?_
 refine Zq (q := decide (0 < n)) rfl rfl rfl rfl ?_
 refine Xa ?_
 refine Xw rfl (fun h123 => ?_) (fun h123 => ?_)
 ·
  have h124 := of_decide_eq_true h123
  refine Xy ?_
  refine Xv ?_
  refine Xt ?_
  refine Ye ?_
  refine X1 ?_
  refine Xc (v := .slice (some ⟨Bk, 0, none⟩) ks.length ck) e118 rfl ?_
  refine X7 (ps := [(0, .int .i64 1), (1, .int .i64 2), (2, .int .i64 2), (3, .int .i64 3), (4, .int .i64 4), (5, .int .i64 5)]) (e := 3) (cs := (([1, 2, 2, 3, 4, 5] : List Int).flatMap icell).toArray) (Xp rfl (Xp rfl (Xp rfl (Xp rfl (Xp rfl (Xp rfl X9)))))) (fun _ => by kernel_rfl) rfl ?_
  intro B125 w126 hN127
  have hlB125 := Yf hN127 hb116
  have lt_R_B125 := Xq hN127 (k122).lt
  have lt_Bk_B125 := Xq hN127 (hOk).lt
  have hb128 := low0 hb116 hN127.grw
  refine Xc (v := .pointer (some ⟨R, 0, none⟩)) e120 rfl ?_
  have k129 := (k122.grown0 hN127.grw)
  refine Xn (vs := [.pointer (some ⟨R, 0, none⟩), .int .i64 6]) Y1 (Xg rfl (Xg rfl Xm)) rfl (Yr p1 6 (by omega) _ R bs _ _ _ k129 (by omega) (SlLt.low1 hs hb128 hlo) (by first | exact hb | exact fun b h => hb b (List.mem_of_mem_take h)) (by first | omega | (rw [List.length_take]; omega))) ?_
  rintro _ w135 ⟨k130, rfl, hk131, hk132, kR133, hg134⟩
  have hb136 := grown_trans hb128 hg134
  refine X8 (o' := (k130).toNat * 1) Qa rfl rfl (by omega) (by omega) (by omega) rfl ?_
  have k137 := (hN127.blk.grown hg134 (Xf (by omega)))
  obtain ⟨x138, hx139⟩ := Zf (l := ([1, 2, 2, 3, 4, 5] : List Int)) (i := (k130).toNat) (show (k130).toNat < 6 by omega)
  have hm140 := List.mem_of_getElem? hx139
  simp only [List.mem_cons, List.not_mem_nil, or_false] at hm140
  refine Xi (v := .int .i64 x138) X3 rfl ((Y9 Ys k137 hx139) 0 _ rfl) rfl ?_
  refine X7 (ps := [(0, .int .i64 x138)]) (e := 3) (cs := (([x138] : List Int).flatMap icell).toArray) (Xp rfl X9) (fun _ => by kernel_rfl) rfl ?_
  intro B141 w142 hN143
  have hlB141 := Yf hN143 hb136
  have lt_R_B141 := Xq hN143 (kR133).lt
  have k144 := ((hOk.grown0 hN127.grw).grown hg134 (Xf (by omega)))
  have lt_Bk_B141 := Xq hN143 (k144).lt
  have lt_B125_B141 := Xq hN143 (k137).lt
  have hb145 := low0 hb136 hN143.grw
  have k146 := (k144.grown0 hN143.grw)
  have k147 := (kR133.grown0 hN143.grw)
  have k148 := (k137.grown0 hN143.grw)
  refine Kq (g := icell) (ys := ks) (zs := ([x138] : List Int)) Lm rfl Ys (by omega) Ut rfl rfl k146 (Qf Ys hN143.blk) (by simp only [List.length_cons, List.length_nil]; omega) (by omega) rfl ?_
  intro B149 cap150 w151 hO152 hg153 hor154
  have hlB149 : w.heap.size ≤ B149 := by rcases hor154 with h | h; (rw [h]; exact hlBk); (rw [h]; exact hb145.size)
  have ne_R_B149 : R ≠ B149 := by have h := (k147).lt; omega
  have ne_B125_B149 : B125 ≠ B149 := by have h := (k148).lt; omega
  have ne_B141_B149 : B141 ≠ B149 := by have h := (hN143.blk).lt; omega
  have hb155 := low1 hb145 hg153 (by omega)
  refine Xh (v := .slice (some ⟨B149, 0, none⟩) ((ks ++ ([x138] : List Int)).length) cap150) rfl rfl ?_
  refine Xa ?_
  refine Yy ?_
  refine Xv ?_
  refine X1 ?_
  refine Xc (v := .int .i64 n) e119 rfl ?_
  refine Y3 (c := n - 1) rfl rfl (by omega) (by omega) (by omega) rfl ?_
  refine Xh (v := .int .i64 (n - 1)) rfl rfl ?_
  refine Xa ?_
  refine Xv ?_
  have k156 := (k147.grown hg153 (Xf (by omega)))
  exact ⟨(n - 1).toNat, by omega, (n - 1), (p1 + 1), B149, cap150, (ks ++ ([x138] : List Int)), rfl, (by omega), (by omega), (by simp only [List.length_append, List.length_cons, List.length_nil]; omega), (by intro y hy; rcases List.mem_append.1 hy with h | h; exact hks y h; (simp at h; omega)), hO152, hlB149, (by omega), rfl, rfl, e120, e121, hb155, k156⟩
 ·
  have h157 := of_decide_eq_false h123
  refine Y5 ?_
  refine Y2 ?_
  refine Y2 ?_
  refine Z1 ?_
  refine Xv ?_
  refine Xb ?_
  refine X7 (ps := []) (e := 43) (cs := (([] : List MTh).flatMap MTh.cells).toArray) X9 (fun _ => by kernel_rfl) rfl ?_
  intro B158 w159 hN160
  have hlB158 := Yf hN160 hb116
  have lt_R_B158 := Xq hN160 (k122).lt
  have lt_Bk_B158 := Xq hN160 (hOk).lt
  have hb161 := low0 hb116 hN160.grw
  refine Xh (v := .slice (some ⟨B158, 0, none⟩) 0 0) rfl rfl ?_
  refine Xa ?_
  refine Xt ?_
  refine Xb ?_
  refine Xh (v := .int .i64 0) rfl rfl ?_
  refine Xa ?_
  refine Ye ?_
  have k162 := (hOk.grown0 hN160.grw)
  have k163 := (k122.grown0 hN160.grw)
  refine Zd (fun mm f' w' => ∃ (i : Nat) (p2 : Int) (Bt : Nat) (ct : Nat) (ms : List MTh), mm = ks.length - i ∧ i ≤ ks.length ∧ (p ≤ p2 ∧ p2 ≤ p + 6 + 12 * (i : Int)) ∧ ms.length = i ∧ RowsD 37 3 w.heap.size w' ms ∧ Dw.Own w' Bt 43 8 ct ms.length (ms.flatMap MTh.cells) ∧ w.heap.size ≤ Bt ∧ R ≠ Bt ∧ Bk ≠ Bt ∧ f' 5 = .slice (some ⟨Bt, 0, none⟩) ms.length ct ∧ f' 6 = .int .i64 (i : Int) ∧ f' 0 = .pointer (some ⟨R, 0, none⟩) ∧ f' 2 = .slice none 0 0 ∧ f' 3 = .slice (some ⟨Bk, 0, none⟩) ks.length ck ∧ w.grownBy w' (some R) ∧ Dw.Own w' Bk 3 1 ck ks.length (ks.flatMap icell) ∧ Blk w' R 108 #[.slice a bs.length c, .int .i64 p2]) (ks.length - 0) ⟨0, p1, B158, 0, ([] : List MTh), rfl, (Nat.zero_le _), (by omega), rfl, RowsD.nil, (Own.rows Zy hN160.blk (by simp)), hlB158, (by omega), (by omega), rfl, rfl, e120, e121, e118, hb161, k162, k163⟩ ?_
  rintro mm f164 w165 ⟨i, p2, Bt, ct, ms, hm167, hi, hpp2, hml, hRows, hOt, hlBt, hnf0, hnf1, e168, e169, e170, e171, e172, hb166, k173, k174⟩
  have hkl2 := hkl
  refine Xt ?_
  refine Xb ?_
  refine Xc (v := .int .i64 (i : Int)) e169 rfl ?_
  refine Xc (v := .slice (some ⟨Bk, 0, none⟩) ks.length ck) e172 rfl ?_
  refine Ym (by kernel_rfl) rfl rfl ?_
  refine Y4 (q := decide ((i : Int) < (ks.length : Int))) rfl rfl rfl rfl ?_
  refine Xa ?_
  refine Xw rfl (fun h175 => ?_) (fun h175 => ?_)
  ·
   have h176 := of_decide_eq_true h175
   refine Xy ?_
   refine Xv ?_
   refine Xt ?_
   refine Ye ?_
   refine Xb ?_
   refine Xh (v := .int .i64 0) rfl rfl ?_
   refine Xa ?_
   refine Xt ?_
   refine Xb ?_
   refine Xc (v := .slice (some ⟨Bk, 0, none⟩) ks.length ck) e172 rfl ?_
   refine Xc (v := .int .i64 (i : Int)) e169 rfl ?_
   refine X8 (o' := i * 1) Qa rfl rfl (by omega) (by omega) (by omega) rfl ?_
   obtain ⟨x177, hx178⟩ := Zf (l := ks) (i := i) (by omega)
   refine Xi (v := .int .i64 x177) X3 rfl ((Own.range Ys k173 hx178) 0 _ rfl) rfl ?_
   refine X4 (q := decide (x177 = 5)) rfl rfl rfl rfl ?_
   refine Xa ?_
   refine Lw (fun f' w' => (f' 0 = .pointer (some ⟨R, 0, none⟩) ∧ f' 2 = .slice none 0 0 ∧ f' 3 = .slice (some ⟨Bk, 0, none⟩) ks.length ck ∧ f' 5 = .slice (some ⟨Bt, 0, none⟩) ms.length ct ∧ f' 6 = .int .i64 (i : Int) ∧ f' 7 = .int .i64 (if x177 = 5 then 1 else 0)) ∧ w165 = w') ?_ ?_
   ·
    refine Xw rfl (fun h179 => ?_) (fun h179 => ?_)
    ·
     have h180 := of_decide_eq_true h179
     refine X1 ?_
     refine Xh (v := .int .i64 1) rfl rfl ?_
     refine Xa ?_
     refine Xv ?_
     exact ⟨⟨e170, e171, e172, e168, e169, (congrArg (Value.int .i64) (if_pos (of_decide_eq_true h179)).symm)⟩, rfl⟩
    ·
     have h181 := of_decide_eq_false h179
     refine Xy ?_
     refine Xv ?_
     exact ⟨⟨e170, e171, e172, e168, e169, (congrArg (Value.int .i64) (if_neg (of_decide_eq_false h179)).symm)⟩, rfl⟩
   ·
    rintro f182 _ ⟨⟨e184, e185, e186, e187, e188, e189⟩, rfl⟩
    refine Xv ?_
    refine X1 ?_
    refine Xc (v := .slice (some ⟨Bt, 0, none⟩) ms.length ct) e187 rfl ?_
    refine Xc (v := .pointer (some ⟨R, 0, none⟩)) e184 rfl ?_
    refine Xc (v := .slice (some ⟨Bk, 0, none⟩) ks.length ck) e186 rfl ?_
    refine Xc (v := .int .i64 (i : Int)) e188 rfl ?_
    refine X8 (o' := i * 1) Qa rfl rfl (by omega) (by omega) (by omega) rfl ?_
    refine Xi (v := .int .i64 x177) X3 rfl ((Own.range Ys k173 hx178) 0 _ rfl) rfl ?_
    refine Xc (v := .int .i64 (if x177 = 5 then 1 else 0)) e189 rfl ?_
    refine Xn (vs := [.pointer (some ⟨R, 0, none⟩), .int .i64 x177, .int .i64 (if x177 = 5 then 1 else 0)]) T3 (Xg rfl (Xg rfl (Xg rfl Xm))) rfl (Hu x177 (if x177 = 5 then 1 else 0) p2 (by omega) _ R bs _ _ _ k174 (by omega) (SlLt.low1 hs hb166 hlo) (by first | exact hb | exact fun b h => hb b (List.mem_of_mem_take h)) (by first | omega | (rw [List.length_take]; omega))) ?_
    rintro _ w197 ⟨m190, p191, rfl, hRD192, hp193, hp194, kR195, hg196⟩
    have hb198 := grown_trans hb166 hg196
    have hRD199 := RowD.mono hRD192 hb166.size
    refine X7 (ps := [(0, .agg #[.int .i64 m190.t.kind, .int .i64 m190.t.lab.s, .int .i64 m190.t.lab.v, .int .i64 m190.t.ve, .int .i64 m190.t.num, .slice m190.sa m190.t.slots.length m190.sc, .slice m190.qa m190.t.queue.length m190.qc, .int .i64 m190.t.to])]) (e := 43) (cs := (([m190] : List MTh).flatMap MTh.cells).toArray) (Xp rfl X9) (fun _ => by kernel_rfl) rfl ?_
    intro B200 w201 hN202
    have hlB200 := Yf hN202 hb198
    have k203 := (k173.grown hg196 (Xf (by omega)))
    have lt_Bk_B200 := Xq hN202 (k203).lt
    have lt_R_B200 := Xq hN202 (kR195).lt
    have k204 := (hOt.grown hg196 (Xf (by omega)))
    have lt_Bt_B200 := Xq hN202 (k204).lt
    have hb205 := low0 hb198 hN202.grw
    have k206 := (k204.grown0 hN202.grw)
    have k207 := (k203.grown0 hN202.grw)
    have k208 := (kR195.grown0 hN202.grw)
    refine Kq (g := MTh.cells) (ys := ms) (zs := ([m190] : List MTh)) Td rfl Zy (by omega) Rg rfl rfl k206 (Qf Zy hN202.blk) (by simp only [List.length_cons, List.length_nil]; omega) (by omega) rfl ?_
    intro B209 cap210 w211 hO212 hg213 hor214
    have hlB209 : w.heap.size ≤ B209 := by rcases hor214 with h | h; (rw [h]; exact hlBt); (rw [h]; exact hb205.size)
    have ne_Bk_B209 : Bk ≠ B209 := by have h := (k207).lt; omega
    have ne_R_B209 : R ≠ B209 := by have h := (k208).lt; omega
    have ne_B200_B209 : B200 ≠ B209 := by have h := (hN202.blk).lt; omega
    have hb215 := low1 hb205 hg213 (by omega)
    refine Xh (v := .slice (some ⟨B209, 0, none⟩) ((ms ++ ([m190] : List MTh)).length) cap210) rfl rfl ?_
    refine Xa ?_
    refine Yy ?_
    refine Xv ?_
    refine X1 ?_
    refine Xc (v := .int .i64 (i : Int)) e188 rfl ?_
    refine Yx (c := (i : Int) + 1) rfl rfl (by omega) (by omega) (by omega) rfl ?_
    refine Xh (v := .int .i64 ((i : Int) + 1)) rfl rfl ?_
    refine Xa ?_
    refine Xv ?_
    have hRw216 := (RowsD.typ (RowsD.low (RowsD.lt hRows hg196 (by omega)) hN202.grw) hg213 k206 (by decide) (by decide))
    have k217 := (k207.grown hg213 (Xf (by omega)))
    have k218 := (k208.grown hg213 (Xf (by omega)))
    exact ⟨ks.length - (i + 1), by omega, (i + 1), p191, B209, cap210, (ms ++ ([m190] : List MTh)), rfl, (by omega), (by omega), (by rw [List.length_append, hml]; rfl), (RowsD.snoc hRw216 (RowD.typ (RowD.low hRD199 hN202.grw) hg213 k206 (by decide) (by decide))), hO212, hlB209, (by omega), (by omega), rfl, rfl, e184, e185, e186, hb215, k217, k218⟩
  ·
   have h219 := of_decide_eq_false h175
   refine Y5 ?_
   refine Y2 ?_
   refine Y2 ?_
   refine Z1 ?_
   refine Xv ?_
   refine Xt ?_
   refine Xb ?_
   refine Xh (v := .int .i64 0) rfl rfl ?_
   refine Xa ?_
   refine Ye ?_
   obtain ⟨hi, hhi⟩ : ∃ n, n = w165.heap.size := ⟨_, rfl⟩
   have hH := RowsD.hi hRows
   rw [← hhi] at hH
   have hbt := (hOt).lt
   refine Zd (fun mm f' w' => ∃ (i3 : Nat) (p3 : Int), mm = ms.length - i3 ∧ i3 ≤ ms.length ∧ (p ≤ p3 ∧ p3 ≤ p + 102 + 56 * (i3 : Int)) ∧ RowsD 37 3 w.heap.size w' ms ∧ Dw.Own w' Bt 43 8 ct ms.length (ms.flatMap MTh.cells) ∧ hi ≤ w'.heap.size ∧ f' 8 = .int .i64 (i3 : Int) ∧ f' 0 = .pointer (some ⟨R, 0, none⟩) ∧ f' 2 = .slice none 0 0 ∧ f' 5 = .slice (some ⟨Bt, 0, none⟩) ms.length ct ∧ w.grownBy w' (some R) ∧ Dw.Own w' Bt 43 8 ct ms.length (ms.flatMap MTh.cells) ∧ Blk w' R 108 #[.slice a bs.length c, .int .i64 p3]) (ms.length - 0) ⟨0, p2, rfl, (Nat.zero_le _), (by omega), hRows, hOt, (Nat.le_of_eq hhi), rfl, e170, e171, e168, hb166, hOt, k174⟩ ?_
   rintro mm f220 w221 ⟨i3, p3, hm223, hi3, hpp3, hRows, hOt, hhs, e224, e225, e226, e227, hb222, k228, k229⟩
   refine Xt ?_
   refine Xb ?_
   refine Xc (v := .int .i64 (i3 : Int)) e224 rfl ?_
   refine Xc (v := .slice (some ⟨Bt, 0, none⟩) ms.length ct) e227 rfl ?_
   refine Ym (by kernel_rfl) rfl rfl ?_
   refine Y4 (q := decide ((i3 : Int) < (ms.length : Int))) rfl rfl rfl rfl ?_
   refine Xa ?_
   refine Xw rfl (fun h230 => ?_) (fun h230 => ?_)
   ·
    have h231 := of_decide_eq_true h230
    refine Xy ?_
    refine Xv ?_
    refine Xt ?_
    refine Ye ?_
    refine Xb ?_
    refine Xh (v := .int .i64 0) rfl rfl ?_
    refine Xa ?_
    refine Ye ?_
    refine Zd (fun mm f' w' => ∃ (j : Nat) (p4 : Int), mm = (mAt ms i3).t.slots.length - j ∧ j ≤ (mAt ms i3).t.slots.length ∧ (p3 ≤ p4 ∧ p4 ≤ p3 + 14 * (j : Int)) ∧ RowsD 37 3 w.heap.size w' ms ∧ Dw.Own w' Bt 43 8 ct ms.length (ms.flatMap MTh.cells) ∧ hi ≤ w'.heap.size ∧ f' 9 = .int .i64 (j : Int) ∧ f' 0 = .pointer (some ⟨R, 0, none⟩) ∧ f' 2 = .slice none 0 0 ∧ f' 5 = .slice (some ⟨Bt, 0, none⟩) ms.length ct ∧ f' 8 = .int .i64 (i3 : Int) ∧ w.grownBy w' (some R) ∧ Dw.Own w' Bt 43 8 ct ms.length (ms.flatMap MTh.cells) ∧ Blk w' R 108 #[.slice a bs.length c, .int .i64 p4]) ((mAt ms i3).t.slots.length - 0) ⟨0, p3, rfl, (Nat.zero_le _), (by omega), hRows, hOt, hhs, rfl, e225, e226, e227, e224, hb222, hOt, k229⟩ ?_
    rintro mm f232 w233 ⟨j, p4, hm235, hj, hpp4, hRows, hOt, hhs, e236, e237, e238, e239, e240, hb234, k241, k242⟩
    have hsl4 := (RowsD.at hRows (show i3 < ms.length by omega)).sl
    refine Xt ?_
    refine Xb ?_
    refine Xc (v := .int .i64 (j : Int)) e236 rfl ?_
    refine Xc (v := .slice (some ⟨Bt, 0, none⟩) ms.length ct) e239 rfl ?_
    refine Xc (v := .int .i64 (i3 : Int)) e240 rfl ?_
    refine X8 (o' := i3 * 8) Zl rfl rfl (by omega) (by omega) (by omega) rfl ?_
    refine Xd (o' := i3 * 8 + 5) Zt rfl rfl rfl ?_
    have hve243 := (RowsD.at hRows (show i3 < ms.length by omega)).ve
    refine Xi (v := .slice ((mAt ms i3).sa) ((mAt ms i3).t.slots.length) ((mAt ms i3).sc)) Qq rfl ((Own.range Zy hOt (Ya (show i3 < ms.length by omega))) 5 _ rfl) rfl ?_
    refine Ym (by kernel_rfl) rfl rfl ?_
    refine Y4 (q := decide ((j : Int) < ((mAt ms i3).t.slots.length : Int))) rfl rfl rfl rfl ?_
    refine Xa ?_
    refine Xw rfl (fun h244 => ?_) (fun h244 => ?_)
    ·
     have h245 := of_decide_eq_true h244
     refine Xy ?_
     refine Xv ?_
     refine Xt ?_
     refine Ye ?_
     refine Xb ?_
     refine Xc (v := .pointer (some ⟨R, 0, none⟩)) e237 rfl ?_
     refine Xn (vs := [.pointer (some ⟨R, 0, none⟩)]) M5 (Xg rfl Xm) rfl (Lc p4 (by omega) _ R bs _ _ _ k242 (by omega) (SlLt.low1 hs hb234 hlo) (by first | exact hb | exact fun b h => hb b (List.mem_of_mem_take h)) (by first | omega | (rw [List.length_take]; omega))) ?_
     rintro _ w256 ⟨r246, p247, rfl, hr248, hr249, hr250, hr251, hp252, hp253, kR254, hg255⟩
     have hb257 := grown_trans hb234 hg255
     refine Yj (cs := #[.int .i64 0, .int .i64 0, .bool false, .bool false, .bool false]) J3 rfl rfl ?_
     intro B258 w259 hN260
     have hlB258 := Yf hN260 hb257
     have hhiB258 : hi ≤ B258 := Nat.le_trans (Nat.le_trans hhs hg255.size) (Nat.le_of_eq hN260.eq.symm)
     have k261 := (hOt.grown hg255 (Xf (by omega)))
     have lt_Bt_B258 := Xq hN260 (k261).lt
     have lt_R_B258 := Xq hN260 (kR254).lt
     have hb262 := low0 hb257 hN260.grw
     refine Xz (vs := [.int .i64 r246.th, .int .i64 r246.ve, .bool r246.rd, .bool r246.wr, .bool r246.wk]) (cs' := #[.int .i64 r246.th, .int .i64 r246.ve, .bool r246.rd, .bool r246.wr, .bool r246.wk]) Y8 rfl rfl rfl (by simp [Value.oneCell']) hN260.blk (Nat.le_of_ble_eq_true rfl) rfl ?_
     intro w263 hS264
     have hb265 := low1 hb262 hS264.grw (by omega)
     refine Xa ?_
     refine Q0 (fun f' w' => ∃ (p5 : Int) (r5 : Rt), (p4 ≤ p5 ∧ p5 ≤ p4 + 12) ∧ RB r5 ∧ RowsD 37 3 w.heap.size w' ms ∧ Dw.Own w' Bt 43 8 ct ms.length (ms.flatMap MTh.cells) ∧ hi ≤ w'.heap.size ∧ f' 0 = .pointer (some ⟨R, 0, none⟩) ∧ f' 2 = .slice none 0 0 ∧ f' 5 = .slice (some ⟨Bt, 0, none⟩) ms.length ct ∧ f' 8 = .int .i64 (i3 : Int) ∧ f' 9 = .int .i64 (j : Int) ∧ f' 10 = .pointer (some ⟨B258, 0, none⟩) ∧ w.grownBy w' (some R) ∧ Blk w' B258 37 #[.int .i64 r5.th, .int .i64 r5.ve, .bool r5.rd, .bool r5.wr, .bool r5.wk] ∧ Dw.Own w' Bt 43 8 ct ms.length (ms.flatMap MTh.cells) ∧ Blk w' R 108 #[.slice a bs.length c, .int .i64 p5]) ?_ ?_
     ·
      refine Xb ?_
      refine Xd (o' := 0) Yp rfl rfl rfl ?_
      refine Xi (v := .int .i64 r246.th) X3 rfl (hS264.blk.cell rfl) rfl ?_
      refine Zq (q := decide (0 < r246.th)) rfl rfl rfl rfl ?_
      refine Xc (v := .bool (decide (0 < r246.th))) rfl rfl ?_
      rcases Yb (decide (0 < r246.th)) with h274 | h274
      ·
       have h275 := of_decide_eq_true h274
       refine Xe rfl rfl rfl h274 ?_
       refine Xc (v := .pointer (some ⟨R, 0, none⟩)) e237 rfl ?_
       refine Xe rfl rfl rfl h274 ?_
       have k276 := ((kR254.grown0 hN260.grw).grown hS264.grw (Xf (by omega)))
       refine Xn (vs := [.pointer (some ⟨R, 0, none⟩), .int .i64 40]) Y1 (Xg rfl (Xg rfl Xm)) rfl (Yr p247 40 (by omega) _ R bs _ _ _ k276 (by omega) (SlLt.low1 hs hb265 hlo) (by first | exact hb | exact fun b h => hb b (List.mem_of_mem_take h)) (by first | omega | (rw [List.length_take]; omega))) ?_
       rintro _ w282 ⟨k277, rfl, hk278, hk279, kR280, hg281⟩
       have hb283 := grown_trans hb265 hg281
       refine Xe rfl rfl rfl h274 ?_
       refine Zq (q := decide (0 < k277)) rfl rfl rfl rfl ?_
       refine Xr (v := .bool (decide (0 < k277))) rfl h274 rfl rfl ?_
       refine Xa ?_
       refine Xw rfl (fun h284 => ?_) (fun h284 => ?_)
       ·
        have h285 := of_decide_eq_true h284
        refine Xt ?_
        refine Qs (m := 7) [[], [0], [], [2], [0, 1, 2, 3], [], [5], [0, 1, 2, 3, 4, 5, 6], [0, 1, 2, 3, 4, 5, 6, 7], [0, 1, 2, 3, 4, 5, 6, 7, 8], [0, 1, 2, 3, 4, 5, 6, 7, 8, 9]] (fun S F w' => ∃ (k325 : Int), w282.grownBy w' (some R) ∧ F 0 = .pointer (some ⟨R, 0, none⟩) ∧ F 2 = .slice none 0 0 ∧ F 5 = .slice (some ⟨Bt, 0, none⟩) ms.length ct ∧ F 8 = .int .i64 (i3 : Int) ∧ F 9 = .int .i64 (j : Int) ∧ F 10 = .pointer (some ⟨B258, 0, none⟩) ∧ (S 3 = false → Blk w' R 108 #[.slice a bs.length c, .int .i64 (p247 + 1)]) ∧ (S 0 = true → F 74 = .pointer (some ⟨B258, 0, none⟩)) ∧ (S 1 = true → F 75 = .int .i64 r246.th) ∧ (S 2 = true → F 76 = .pointer (some ⟨R, 0, none⟩)) ∧ (S 3 = true → F 77 = .int .i64 k325 ∧ 0 ≤ k325 ∧ (k325 < 8 ∨ k325 = 0) ∧ Blk w' R 108 #[.slice a bs.length c, .int .i64 (p247 + 1 + 1)]) ∧ (S 4 = true → F 78 = .int .i64 (r246.th + k325)) ∧ (S 5 = true → F 79 = .slice (some ⟨Bt, 0, none⟩) ms.length ct) ∧ (S 6 = true → F 80 = .int .i64 (ms.length : Int))) Zi (by kernel_rfl) ⟨0, Yl _, e237, e238, e239, e240, e236, rfl, fun _ => (kR280).grown0 (Yl _), fun h => X5 h, fun h => X5 h, fun h => X5 h, fun h => X5 h, fun h => X5 h, fun h => X5 h, fun h => X5 h⟩ ?_ ?_
        ·
         refine X6 (fun S F w332 hS hbef hcl hI => ?_) ?_
         ·
          obtain ⟨k325, hi333, e334, e335, e336, e337, e338, e339, c_old_R, c_0, c_1, c_2, c_3, c_4, c_5, c_6⟩ := hI
          have hb340 := grown_trans hb283 hi333
          refine Xd (o' := 0) Yp e339 rfl rfl ?_
          exact Xa ⟨k325, hi333, e334, e335, e336, e337, e338, e339, fun h => c_old_R h, fun _ => rfl, fun h => Xx 1 hS hcl rfl h, c_2, c_3, fun h => Xx 4 hS hcl rfl h, c_5, c_6⟩
         refine X6 (fun S F w341 hS hbef hcl hI => ?_) ?_
         ·
          obtain ⟨k325, hi342, e343, e344, e345, e346, e347, e348, c_old_R, c_0, c_1, c_2, c_3, c_4, c_5, c_6⟩ := hI
          have hb349 := grown_trans hb283 hi342
          obtain e350 := c_0 (Xo 0 hbef rfl)
          have k351 := ((hS264.blk.grown hg281 (Xf (by omega))).grown hi342 (Xf (by omega)))
          refine Xi (v := .int .i64 r246.th) X3 e350 (k351.cell rfl) rfl ?_
          exact Xa ⟨k325, hi342, e343, e344, e345, e346, e347, e348, fun h => c_old_R h, c_0, fun _ => rfl, c_2, c_3, fun h => Xx 4 hS hcl rfl h, c_5, c_6⟩
         refine X6 (fun S F w352 hS hbef hcl hI => ?_) ?_
         ·
          obtain ⟨k325, hi353, e354, e355, e356, e357, e358, e359, c_old_R, c_0, c_1, c_2, c_3, c_4, c_5, c_6⟩ := hI
          have hb360 := grown_trans hb283 hi353
          refine Xc (v := .pointer (some ⟨R, 0, none⟩)) e354 rfl ?_
          exact Xa ⟨k325, hi353, e354, e355, e356, e357, e358, e359, fun h => c_old_R h, c_0, c_1, fun _ => rfl, fun h => Xx 3 hS hcl rfl h, fun h => Xx 4 hS hcl rfl h, c_5, c_6⟩
         refine X6 (fun S F w361 hS hbef hcl hI => ?_) ?_
         ·
          obtain ⟨k325, hi362, e363, e364, e365, e366, e367, e368, c_old_R, c_0, c_1, c_2, c_3, c_4, c_5, c_6⟩ := hI
          have hb369 := grown_trans hb283 hi362
          obtain e370 := c_2 (Xo 2 hbef rfl)
          refine Xn (vs := [.pointer (some ⟨R, 0, none⟩), .int .i64 8]) Y1 (Xg e370 (Xg rfl Xm)) rfl (Yr (p247 + 1) 8 (by omega) _ R bs _ _ _ (c_old_R hS) (by omega) (SlLt.low1 hs hb369 hlo) (by first | exact hb | exact fun b h => hb b (List.mem_of_mem_take h)) (by first | omega | (rw [List.length_take]; omega))) ?_
          rintro _ w376 ⟨k371, rfl, hk372, hk373, kR374, hg375⟩
          have hb377 := grown_trans hb369 hg375
          exact Xa ⟨k371, (grown_trans hi362 hg375), e363, e364, e365, e366, e367, e368, fun h => Qh h, c_0, c_1, c_2, fun _ => ⟨rfl, hk372, hk373, kR374⟩, fun h => Xx 4 hS hcl rfl h, c_5, c_6⟩
         refine X6 (fun S F w378 hS hbef hcl hI => ?_) ?_
         ·
          obtain ⟨k325, hi379, e380, e381, e382, e383, e384, e385, c_old_R, c_0, c_1, c_2, c_3, c_4, c_5, c_6⟩ := hI
          have hb386 := grown_trans hb283 hi379
          obtain e387 := c_0 (Xo 0 hbef rfl)
          obtain e388 := c_1 (Xo 1 hbef rfl)
          obtain e389 := c_2 (Xo 2 hbef rfl)
          obtain ⟨e390, hk326, hk327, ks3_R⟩ := c_3 (Xo 3 hbef rfl)
          refine Yx (c := r246.th + k325) e388 e390 (by omega) (by omega) (by omega) rfl ?_
          exact Xa ⟨k325, hi379, e380, e381, e382, e383, e384, e385, fun hn => Qh ((Xo 3 hbef rfl).symm.trans hn), c_0, c_1, c_2, c_3, fun _ => rfl, c_5, c_6⟩
         refine X6 (fun S F w391 hS hbef hcl hI => ?_) ?_
         ·
          obtain ⟨k325, hi392, e393, e394, e395, e396, e397, e398, c_old_R, c_0, c_1, c_2, c_3, c_4, c_5, c_6⟩ := hI
          have hb399 := grown_trans hb283 hi392
          refine Xc (v := .slice (some ⟨Bt, 0, none⟩) ms.length ct) e395 rfl ?_
          exact Xa ⟨k325, hi392, e393, e394, e395, e396, e397, e398, fun h => c_old_R h, c_0, c_1, c_2, c_3, c_4, fun _ => rfl, fun h => Xx 6 hS hcl rfl h⟩
         refine X6 (fun S F w400 hS hbef hcl hI => ?_) ?_
         ·
          obtain ⟨k325, hi401, e402, e403, e404, e405, e406, e407, c_old_R, c_0, c_1, c_2, c_3, c_4, c_5, c_6⟩ := hI
          have hb408 := grown_trans hb283 hi401
          obtain e409 := c_5 (Xo 5 hbef rfl)
          refine Ym (by kernel_rfl) e409 rfl ?_
          exact Xa ⟨k325, hi401, e402, e403, e404, e405, e406, e407, fun h => c_old_R h, c_0, c_1, c_2, c_3, c_4, c_5, fun _ => rfl⟩
         exact Q5
        ·
         intro S F w410 hall hI
         obtain ⟨k325, hi411, e412, e413, e414, e415, e416, e417, c_old_R, c_0, c_1, c_2, c_3, c_4, c_5, c_6⟩ := hI
         have hb418 := grown_trans hb283 hi411
         obtain e419 := c_0 (hall 0 (by decide))
         obtain e420 := c_1 (hall 1 (by decide))
         obtain e421 := c_2 (hall 2 (by decide))
         obtain ⟨e422, hk326, hk327, ks3_R⟩ := c_3 (hall 3 (by decide))
         obtain e423 := c_4 (hall 4 (by decide))
         obtain e424 := c_5 (hall 5 (by decide))
         obtain e425 := c_6 (hall 6 (by decide))
         have hr426 := Int.emod_nonneg (r246.th + k325) (show (ms.length : Int) ≠ 0 by omega)
         have hr427 := Int.emod_lt_of_pos (r246.th + k325) (show 0 < (ms.length : Int) by omega)
         refine Kj (c := (r246.th + k325) % (ms.length : Int)) e423 e425 (by omega) (by omega) (by omega) rfl rfl ?_
         refine Yx (c := 1 + ((r246.th + k325) % (ms.length : Int))) rfl rfl (by omega) (by omega) (by omega) rfl ?_
         refine Xd (o' := 0) Yp e417 rfl rfl ?_
         have k428 := ((hS264.blk.grown hg281 (Xf (by omega))).grown hi411 (Xf (by omega)))
         refine Yc (v := .int .i64 (1 + ((r246.th + k325) % (ms.length : Int)))) (cs' := #[.int .i64 (1 + ((r246.th + k325) % (ms.length : Int))), .int .i64 r246.ve, .bool r246.rd, .bool r246.wr, .bool r246.wk]) X3 rfl rfl rfl k428 (Nat.le_of_ble_eq_true rfl) rfl ?_
         intro w429 hS430
         have hb431 := low1 hb418 hS430.grw (by omega)
         refine Xa ?_
         refine Xv ?_
         refine Xb ?_
         refine Xc (v := .slice (some ⟨Bt, 0, none⟩) ms.length ct) e414 rfl ?_
         refine Xd (o' := 0) Yp e417 rfl rfl ?_
         refine Xi (v := .int .i64 (1 + ((r246.th + k325) % (ms.length : Int)))) X3 rfl (hS430.blk.cell rfl) rfl ?_
         refine Y3 (c := (1 + ((r246.th + k325) % (ms.length : Int))) - 1) rfl rfl (by omega) (by omega) (by omega) rfl ?_
         refine X8 (o' := ((1 + ((r246.th + k325) % (ms.length : Int))) - 1).toNat * 8) Zl rfl rfl (by omega) (by omega) (by omega) rfl ?_
         refine Xd (o' := ((1 + ((r246.th + k325) % (ms.length : Int))) - 1).toNat * 8 + 3) Z6 rfl rfl rfl ?_
         have k432 := (((((k261.grown0 hN260.grw).grown hS264.grw (Xf (by omega))).grown hg281 (Xf (by omega))).grown hi411 (Xf (by omega))).grown hS430.grw (Xf (by omega)))
         have hRw434 := (RowsD.ge (RowsD.lt (RowsD.lt (RowsD.ge (RowsD.low (RowsD.lt hRows hg255 (by omega)) hN260.grw) hS264.grw hH (by omega)) hg281 (by omega)) hi411 (by omega)) hS430.grw hH (by omega))
         have hve433 := (RowsD.at hRw434 (show ((1 + ((r246.th + k325) % (ms.length : Int))) - 1).toNat < ms.length by omega)).ve
         refine Xi (v := .int .i64 ((mAt ms (((1 + ((r246.th + k325) % (ms.length : Int))) - 1).toNat)).t.ve)) X3 rfl ((Own.range Zy k432 (Ya (show ((1 + ((r246.th + k325) % (ms.length : Int))) - 1).toNat < ms.length by omega))) 3 _ rfl) rfl ?_
         refine Xd (o' := 1) Ql e417 rfl rfl ?_
         refine Yc (v := .int .i64 ((mAt ms (((1 + ((r246.th + k325) % (ms.length : Int))) - 1).toNat)).t.ve)) (cs' := #[.int .i64 (1 + ((r246.th + k325) % (ms.length : Int))), .int .i64 ((mAt ms (((1 + ((r246.th + k325) % (ms.length : Int))) - 1).toNat)).t.ve), .bool r246.rd, .bool r246.wr, .bool r246.wk]) X3 rfl rfl rfl hS430.blk (Nat.le_of_ble_eq_true rfl) rfl ?_
         intro w435 hS436
         have hb437 := low1 hb431 hS436.grw (by omega)
         refine Xa ?_
         refine Xb ?_
         refine Xd (o' := 1) Ql e417 rfl rfl ?_
         refine Xi (v := .int .i64 ((mAt ms (((1 + ((r246.th + k325) % (ms.length : Int))) - 1).toNat)).t.ve)) X3 rfl (hS436.blk.cell rfl) rfl ?_
         refine Zq (q := decide (0 < (mAt ms (((1 + ((r246.th + k325) % (ms.length : Int))) - 1).toNat)).t.ve)) rfl rfl rfl rfl ?_
         refine Xc (v := .bool (decide (0 < (mAt ms (((1 + ((r246.th + k325) % (ms.length : Int))) - 1).toNat)).t.ve))) rfl rfl ?_
         rcases Yb (decide (0 < (mAt ms (((1 + ((r246.th + k325) % (ms.length : Int))) - 1).toNat)).t.ve)) with h446 | h446
         ·
          have h447 := of_decide_eq_true h446
          refine Xe rfl rfl rfl h446 ?_
          refine Xc (v := .pointer (some ⟨R, 0, none⟩)) e412 rfl ?_
          refine Xe rfl rfl rfl h446 ?_
          have k448 := ((ks3_R.grown hS430.grw (Xf (by omega))).grown hS436.grw (Xf (by omega)))
          refine Xn (vs := [.pointer (some ⟨R, 0, none⟩), .int .i64 5]) Y1 (Xg rfl (Xg rfl Xm)) rfl (Yr (p247 + 1 + 1) 5 (by omega) _ R bs _ _ _ k448 (by omega) (SlLt.low1 hs hb437 hlo) (by first | exact hb | exact fun b h => hb b (List.mem_of_mem_take h)) (by first | omega | (rw [List.length_take]; omega))) ?_
          rintro _ w454 ⟨k449, rfl, hk450, hk451, kR452, hg453⟩
          have hb455 := grown_trans hb437 hg453
          refine Xe rfl rfl rfl h446 ?_
          refine X4 (q := decide (k449 = 0)) rfl rfl rfl rfl ?_
          refine Xr (v := .bool (decide (k449 = 0))) rfl h446 rfl rfl ?_
          refine Xa ?_
          refine Xw rfl (fun h456 => ?_) (fun h456 => ?_)
          ·
           have h457 := of_decide_eq_true h456
           refine X1 ?_
           refine Xd (o' := 1) Ql e417 rfl rfl ?_
           have k458 := (hS436.blk.grown hg453 (Xf (by omega)))
           refine Xi (v := .int .i64 ((mAt ms (((1 + ((r246.th + k325) % (ms.length : Int))) - 1).toNat)).t.ve)) X3 rfl (k458.cell rfl) rfl ?_
           refine Y3 (c := ((mAt ms (((1 + ((r246.th + k325) % (ms.length : Int))) - 1).toNat)).t.ve) - 1) rfl rfl (by omega) (by omega) (by omega) rfl ?_
           refine Xd (o' := 1) Ql e417 rfl rfl ?_
           refine Yc (v := .int .i64 (((mAt ms (((1 + ((r246.th + k325) % (ms.length : Int))) - 1).toNat)).t.ve) - 1)) (cs' := #[.int .i64 (1 + ((r246.th + k325) % (ms.length : Int))), .int .i64 (((mAt ms (((1 + ((r246.th + k325) % (ms.length : Int))) - 1).toNat)).t.ve) - 1), .bool r246.rd, .bool r246.wr, .bool r246.wk]) X3 rfl rfl rfl k458 (Nat.le_of_ble_eq_true rfl) rfl ?_
           intro w459 hS460
           have hb461 := low1 hb455 hS460.grw (by omega)
           refine Xa ?_
           refine Xv ?_
           have hRw462 := (RowsD.ge (RowsD.lt (RowsD.ge hRw434 hS436.grw hH (by omega)) hg453 (by omega)) hS460.grw hH (by omega))
           have k463 := (((k432.grown hS436.grw (Xf (by omega))).grown hg453 (Xf (by omega))).grown hS460.grw (Xf (by omega)))
           have k464 := (kR452.grown hS460.grw (Xf (by omega)))
           exact ⟨(p247 + 1 + 1 + 1), (⟨1 + ((r246.th + k325) % (ms.length : Int)), ((mAt ms (((1 + ((r246.th + k325) % (ms.length : Int))) - 1).toNat)).t.ve) - 1, r246.rd, r246.wr, r246.wk⟩ : Rt), (by omega), ⟨show (-1 : Int) ≤ 1 + ((r246.th + k325) % (ms.length : Int)) by omega, show 1 + ((r246.th + k325) % (ms.length : Int)) ≤ (9 : Int) by omega, show (-1 : Int) ≤ ((mAt ms (((1 + ((r246.th + k325) % (ms.length : Int))) - 1).toNat)).t.ve) - 1 by omega, show ((mAt ms (((1 + ((r246.th + k325) % (ms.length : Int))) - 1).toNat)).t.ve) - 1 ≤ (9 : Int) by omega⟩, hRw462, k463, (Nat.le_trans (Nat.le_trans (Nat.le_trans (Nat.le_trans (Nat.le_trans (Nat.le_trans (Nat.le_trans (Nat.le_trans (Nat.le_trans hhs hg255.size) hN260.grw.size) hS264.grw.size) hg281.size) hi411.size) hS430.grw.size) hS436.grw.size) hg453.size) hS460.grw.size), e412, e413, e414, e415, e416, e417, hb461, hS460.blk, k463, k464⟩
          ·
           have h465 := of_decide_eq_false h456
           refine Xy ?_
           refine Xv ?_
           have hRw466 := (RowsD.lt (RowsD.ge hRw434 hS436.grw hH (by omega)) hg453 (by omega))
           have k467 := ((k432.grown hS436.grw (Xf (by omega))).grown hg453 (Xf (by omega)))
           have k468 := (hS436.blk.grown hg453 (Xf (by omega)))
           exact ⟨(p247 + 1 + 1 + 1), (⟨1 + ((r246.th + k325) % (ms.length : Int)), (mAt ms (((1 + ((r246.th + k325) % (ms.length : Int))) - 1).toNat)).t.ve, r246.rd, r246.wr, r246.wk⟩ : Rt), (by omega), ⟨show (-1 : Int) ≤ 1 + ((r246.th + k325) % (ms.length : Int)) by omega, show 1 + ((r246.th + k325) % (ms.length : Int)) ≤ (9 : Int) by omega, show (-1 : Int) ≤ (mAt ms (((1 + ((r246.th + k325) % (ms.length : Int))) - 1).toNat)).t.ve by omega, show (mAt ms (((1 + ((r246.th + k325) % (ms.length : Int))) - 1).toNat)).t.ve ≤ (9 : Int) by omega⟩, hRw466, k467, (Nat.le_trans (Nat.le_trans (Nat.le_trans (Nat.le_trans (Nat.le_trans (Nat.le_trans (Nat.le_trans (Nat.le_trans hhs hg255.size) hN260.grw.size) hS264.grw.size) hg281.size) hi411.size) hS430.grw.size) hS436.grw.size) hg453.size), e412, e413, e414, e415, e416, e417, hb455, k468, k467, kR452⟩
         ·
          have h469 := of_decide_eq_false h446
          iterate 3 refine Xk rfl rfl rfl h446 rfl ?_
          refine Xl (v := .bool false) rfl h446 rfl rfl ?_
          refine Xa ?_
          refine Zr rfl rfl ?_
          refine Xy ?_
          refine Xv ?_
          have hRw470 := (RowsD.ge hRw434 hS436.grw hH (by omega))
          have k471 := (k432.grown hS436.grw (Xf (by omega)))
          have k472 := ((ks3_R.grown hS430.grw (Xf (by omega))).grown hS436.grw (Xf (by omega)))
          exact ⟨(p247 + 1 + 1), (⟨1 + ((r246.th + k325) % (ms.length : Int)), (mAt ms (((1 + ((r246.th + k325) % (ms.length : Int))) - 1).toNat)).t.ve, r246.rd, r246.wr, r246.wk⟩ : Rt), (by omega), ⟨show (-1 : Int) ≤ 1 + ((r246.th + k325) % (ms.length : Int)) by omega, show 1 + ((r246.th + k325) % (ms.length : Int)) ≤ (9 : Int) by omega, show (-1 : Int) ≤ (mAt ms (((1 + ((r246.th + k325) % (ms.length : Int))) - 1).toNat)).t.ve by omega, show (mAt ms (((1 + ((r246.th + k325) % (ms.length : Int))) - 1).toNat)).t.ve ≤ (9 : Int) by omega⟩, hRw470, k471, (Nat.le_trans (Nat.le_trans (Nat.le_trans (Nat.le_trans (Nat.le_trans (Nat.le_trans (Nat.le_trans hhs hg255.size) hN260.grw.size) hS264.grw.size) hg281.size) hi411.size) hS430.grw.size) hS436.grw.size), e412, e413, e414, e415, e416, e417, hb437, hS436.blk, k471, k472⟩
       ·
        have h473 := of_decide_eq_false h284
        refine Xy ?_
        refine Xv ?_
        have hRw474 := (RowsD.lt (RowsD.ge (RowsD.low (RowsD.lt hRows hg255 (by omega)) hN260.grw) hS264.grw hH (by omega)) hg281 (by omega))
        have k475 := (((k261.grown0 hN260.grw).grown hS264.grw (Xf (by omega))).grown hg281 (Xf (by omega)))
        have k476 := (hS264.blk.grown hg281 (Xf (by omega)))
        exact ⟨(p247 + 1), r246, (by omega), ⟨show (-1 : Int) ≤ r246.th by omega, show r246.th ≤ (9 : Int) by omega, show (-1 : Int) ≤ r246.ve by omega, show r246.ve ≤ (9 : Int) by omega⟩, hRw474, k475, (Nat.le_trans (Nat.le_trans (Nat.le_trans (Nat.le_trans hhs hg255.size) hN260.grw.size) hS264.grw.size) hg281.size), e237, e238, e239, e240, e236, rfl, hb283, k476, k475, kR280⟩
      ·
       have h477 := of_decide_eq_false h274
       iterate 3 refine Xk rfl rfl rfl h274 rfl ?_
       refine Xl (v := .bool false) rfl h274 rfl rfl ?_
       refine Xa ?_
       refine Zr rfl rfl ?_
       refine Xy ?_
       refine Xv ?_
       have hRw478 := (RowsD.ge (RowsD.low (RowsD.lt hRows hg255 (by omega)) hN260.grw) hS264.grw hH (by omega))
       have k479 := ((k261.grown0 hN260.grw).grown hS264.grw (Xf (by omega)))
       have k480 := ((kR254.grown0 hN260.grw).grown hS264.grw (Xf (by omega)))
       exact ⟨p247, r246, (by omega), ⟨show (-1 : Int) ≤ r246.th by omega, show r246.th ≤ (9 : Int) by omega, show (-1 : Int) ≤ r246.ve by omega, show r246.ve ≤ (9 : Int) by omega⟩, hRw478, k479, (Nat.le_trans (Nat.le_trans (Nat.le_trans hhs hg255.size) hN260.grw.size) hS264.grw.size), e237, e238, e239, e240, e236, rfl, hb265, hS264.blk, k479, k480⟩
     ·
      rintro f481 w482 ⟨p5, r5, hpp5, hr5, hRows, hOt, hhs, e484, e485, e486, e487, e488, e489, hb483, k490, k491, k492⟩
      have hr5a := hr5.1; have hr5b := hr5.2.1; have hr5c := hr5.2.2.1; have hr5d := hr5.2.2.2
      refine Xt ?_
      obtain ⟨S524, xs525, hSa526, hSl527, hSO528, hSn529⟩ := RowD.slot (RowsD.at hRows (show i3 < ms.length by omega)) (by omega)
      have hSh530 := hH _ (List.mem_of_getElem? (Ya (show i3 < ms.length by omega))) _ (Or.inl hSa526)
      refine Ze (m := 7) (vals := [(104, .slice (some ⟨Bt, 0, none⟩) ms.length ct), (105, .int .i64 (i3 : Int)), (106, .pointer (some ⟨Bt, i3 * 8, none⟩)), (107, .pointer (some ⟨Bt, i3 * 8 + 5, none⟩)), (108, .slice ((mAt ms i3).sa) ((mAt ms i3).t.slots.length) ((mAt ms i3).sc)), (109, .int .i64 (j : Int)), (110, .agg #[.int .i64 r5.th, .int .i64 r5.ve, .bool r5.rd, .bool r5.wr, .bool r5.wk])]) (fun w' => w482.grownBy w' none) Zi (by kernel_rfl) (Yl _) ?_ ?_
      ·
       refine Xj rfl (fun w532 hi533 => ?_) ?_
       ·
        have hb534 := low0 hb483 hi533
        refine Xc (v := .slice (some ⟨Bt, 0, none⟩) ms.length ct) e486 rfl ?_
        exact Xa ⟨rfl, hi533⟩
       refine Xj rfl (fun w535 hi536 => ?_) ?_
       ·
        have hb537 := low0 hb483 hi536
        refine Xc (v := .int .i64 (i3 : Int)) e487 rfl ?_
        exact Xa ⟨rfl, hi536⟩
       refine Xj rfl (fun w538 hi539 => ?_) ?_
       ·
        have hb540 := low0 hb483 hi539
        refine X8 (o' := i3 * 8) Zl rfl rfl (by omega) (by omega) (by omega) rfl ?_
        exact Xa ⟨rfl, hi539⟩
       refine Xj rfl (fun w541 hi542 => ?_) ?_
       ·
        have hb543 := low0 hb483 hi542
        refine Xd (o' := i3 * 8 + 5) Zt rfl rfl rfl ?_
        exact Xa ⟨rfl, hi542⟩
       refine Xj rfl (fun w544 hi545 => ?_) ?_
       ·
        have hb546 := low0 hb483 hi545
        have k547 := (hOt.grown0 hi545)
        have hRw549 := (RowsD.low hRows hi545)
        have hve548 := (RowsD.at hRw549 (show i3 < ms.length by omega)).ve
        refine Xi (v := .slice ((mAt ms i3).sa) ((mAt ms i3).t.slots.length) ((mAt ms i3).sc)) Qq rfl ((Own.range Zy k547 (Ya (show i3 < ms.length by omega))) 5 _ rfl) rfl ?_
        exact Xa ⟨rfl, hi545⟩
       refine Xj rfl (fun w550 hi551 => ?_) ?_
       ·
        have hb552 := low0 hb483 hi551
        refine Xc (v := .int .i64 (j : Int)) e488 rfl ?_
        exact Xa ⟨rfl, hi551⟩
       refine Xj rfl (fun w553 hi554 => ?_) ?_
       ·
        have hb555 := low0 hb483 hi554
        have k556 := (k490.grown0 hi554)
        refine Xu (vs := [.int .i64 r5.th, .int .i64 r5.ve, .bool r5.rd, .bool r5.wr, .bool r5.wk]) Y8 e489 rfl (k556.rangeL 0 5 rfl) rfl ?_
        exact Xa ⟨rfl, hi554⟩
       exact Zj
      ·
       intro w557 hi558
       have hb559 := low0 hb483 hi558
       refine Yd Ka rfl rfl hSa526 (Nat.zero_add _) (by omega) (by omega) rfl ?_
       have hSO560 := (hSO528.grown0 hi558)
       have hRB564 : RB r5 := ⟨show (-1 : Int) ≤ r5.th by omega, show r5.th ≤ (9 : Int) by omega, show (-1 : Int) ≤ r5.ve by omega, show r5.ve ≤ (9 : Int) by omega⟩
       have k565 := (k490.grown0 hi558)
       have k567 := (hOt.grown0 hi558)
       have hne566 := Hs k567 hSO560 (by decide)
       have k568 := (k492.grown0 hi558)
       have hRw569 := (RowsD.low hRows hi558)
       refine Uo (z' := r5) Y8 rfl rfl hSO560 (by omega) rfl ?_
       intro w561 hp562 hg563
       have hb570 := low1 hb559 hg563 (by omega)
       refine Xa ?_
       refine Xv ?_
       refine Xb ?_
       have k587 := (k565.grown hg563 (Xf (by omega)))
       refine Xu (vs := [.int .i64 r5.th, .int .i64 r5.ve, .bool r5.rd, .bool r5.wr, .bool r5.wk]) Y8 e489 rfl (k587.rangeL 0 5 rfl) rfl ?_
       refine Xn (vs := [.agg #[.int .i64 r5.th, .int .i64 r5.ve, .bool r5.rd, .bool r5.wr, .bool r5.wk]]) Tf (Xg rfl Xm) rfl (U8 r5 _) ?_
       rintro _ w588 ⟨rfl, hg589⟩
       have hb590 := low0 hb570 hg589
       refine Yk (b' := !rightOk r5) rfl rfl rfl ?_
       refine Xc (v := .bool (!rightOk r5)) rfl rfl ?_
       rcases Yb (!rightOk r5) with h591 | h591
       ·
        have h592 := Zn h591
        refine Xe rfl rfl rfl h591 ?_
        refine Xc (v := .pointer (some ⟨R, 0, none⟩)) e484 rfl ?_
        refine Xe rfl rfl rfl h591 ?_
        have k593 := ((k568.grown hg563 (Xf (by omega))).grown0 hg589)
        refine Xn (vs := [.pointer (some ⟨R, 0, none⟩), .int .i64 3]) Y1 (Xg rfl (Xg rfl Xm)) rfl (Yr p5 3 (by omega) _ R bs _ _ _ k593 (by omega) (SlLt.low1 hs hb590 hlo) (by first | exact hb | exact fun b h => hb b (List.mem_of_mem_take h)) (by first | omega | (rw [List.length_take]; omega))) ?_
        rintro _ w599 ⟨k594, rfl, hk595, hk596, kR597, hg598⟩
        have hb600 := grown_trans hb590 hg598
        refine Xe rfl rfl rfl h591 ?_
        refine Zq (q := decide (0 < k594)) rfl rfl rfl rfl ?_
        refine Xr (v := .bool (decide (0 < k594))) rfl h591 rfl rfl ?_
        refine Xa ?_
        refine Xw rfl (fun h601 => ?_) (fun h601 => ?_)
        ·
         have h602 := of_decide_eq_true h601
         refine X1 ?_
         refine Xc (v := .slice (some ⟨Bt, 0, none⟩) ms.length ct) e486 rfl ?_
         refine Xc (v := .int .i64 (i3 : Int)) e487 rfl ?_
         refine X8 (o' := i3 * 8) Zl rfl rfl (by omega) (by omega) (by omega) rfl ?_
         refine Xd (o' := i3 * 8 + 5) Zt rfl rfl rfl ?_
         have k603 := (((k567.grown hg563 (Xf (by omega))).grown0 hg589).grown hg598 (Xf (by omega)))
         have hRw605 := (RowsD.lt (RowsD.low (RowsD.put hRw569 hp562 hg563 hRB564 hSO560 (by decide)) hg589) hg598 (by omega))
         have hve604 := (RowsD.at hRw605 (show i3 < ms.length by omega)).ve
         refine Xi (v := .slice ((mAt ms i3).sa) ((mAt ms i3).t.slots.length) ((mAt ms i3).sc)) Qq rfl ((Own.range Zy k603 (Ya (show i3 < ms.length by omega))) 5 _ rfl) rfl ?_
         refine Xc (v := .int .i64 (j : Int)) e488 rfl ?_
         refine Yw (ps := []) (v := .agg #[.int .i64 0, .int .i64 0, .bool false, .bool false, .bool false]) X9 (by kernel_rfl) rfl ?_
         obtain ⟨S606, xs607, hSa608, hSl609, hSO610, hSn611⟩ := RowD.slot (RowsD.at hRw605 (show i3 < ms.length by omega)) (by omega)
         have hSh612 := hH _ (List.mem_of_getElem? (Ya (show i3 < ms.length by omega))) _ (Or.inl hSa608)
         refine Yd Ka rfl rfl hSa608 (Nat.zero_add _) (by omega) (by omega) rfl ?_
         have hSO613 := hSO610
         have hRB617 : RB (⟨0, 0, false, false, false⟩ : Rt) := ⟨show (-1 : Int) ≤ 0 by omega, show 0 ≤ (9 : Int) by omega, show (-1 : Int) ≤ 0 by omega, show 0 ≤ (9 : Int) by omega⟩
         have k618 := ((k587.grown0 hg589).grown hg598 (Xf (by omega)))
         have hne619 := Hs k603 hSO613 (by decide)
         refine Uo (z' := (⟨0, 0, false, false, false⟩ : Rt)) Y8 rfl rfl hSO613 (by omega) rfl ?_
         intro w614 hp615 hg616
         have hb620 := low1 hb600 hg616 (by omega)
         refine Xa ?_
         refine Yy ?_
         refine Xv ?_
         refine X1 ?_
         refine Xc (v := .int .i64 (j : Int)) e488 rfl ?_
         refine Yx (c := (j : Int) + 1) rfl rfl (by omega) (by omega) (by omega) rfl ?_
         refine Xh (v := .int .i64 ((j : Int) + 1)) rfl rfl ?_
         refine Xa ?_
         refine Xv ?_
         have hRw621 := (RowsD.put hRw605 hp615 hg616 hRB617 hSO613 (by decide))
         have k622 := (k603.grown hg616 (Xf (by omega)))
         have k623 := (kR597.grown hg616 (Xf (by omega)))
         exact ⟨(mAt ms i3).t.slots.length - (j + 1), by omega, (j + 1), (p5 + 1), rfl, (by omega), (by omega), hRw621, k622, (Nat.le_trans (Nat.le_trans (Nat.le_trans (Nat.le_trans (Nat.le_trans hhs hi558.size) hg563.size) hg589.size) hg598.size) hg616.size), rfl, e484, e485, e486, e487, hb620, k622, k623⟩
        ·
         have h624 := of_decide_eq_false h601
         refine Xy ?_
         refine Yy ?_
         refine Xv ?_
         refine X1 ?_
         refine Xc (v := .int .i64 (j : Int)) e488 rfl ?_
         refine Yx (c := (j : Int) + 1) rfl rfl (by omega) (by omega) (by omega) rfl ?_
         refine Xh (v := .int .i64 ((j : Int) + 1)) rfl rfl ?_
         refine Xa ?_
         refine Xv ?_
         have hRw625 := (RowsD.lt (RowsD.low (RowsD.put hRw569 hp562 hg563 hRB564 hSO560 (by decide)) hg589) hg598 (by omega))
         have k626 := (((k567.grown hg563 (Xf (by omega))).grown0 hg589).grown hg598 (Xf (by omega)))
         exact ⟨(mAt ms i3).t.slots.length - (j + 1), by omega, (j + 1), (p5 + 1), rfl, (by omega), (by omega), hRw625, k626, (Nat.le_trans (Nat.le_trans (Nat.le_trans (Nat.le_trans hhs hi558.size) hg563.size) hg589.size) hg598.size), rfl, e484, e485, e486, e487, hb600, k626, kR597⟩
       ·
        have h627 := Zh h591
        iterate 3 refine Xk rfl rfl rfl h591 rfl ?_
        refine Xl (v := .bool false) rfl h591 rfl rfl ?_
        refine Xa ?_
        refine Zr rfl rfl ?_
        refine Xy ?_
        refine Yy ?_
        refine Xv ?_
        refine X1 ?_
        refine Xc (v := .int .i64 (j : Int)) e488 rfl ?_
        refine Yx (c := (j : Int) + 1) rfl rfl (by omega) (by omega) (by omega) rfl ?_
        refine Xh (v := .int .i64 ((j : Int) + 1)) rfl rfl ?_
        refine Xa ?_
        refine Xv ?_
        have hRw628 := (RowsD.low (RowsD.put hRw569 hp562 hg563 hRB564 hSO560 (by decide)) hg589)
        have k629 := ((k567.grown hg563 (Xf (by omega))).grown0 hg589)
        have k630 := ((k568.grown hg563 (Xf (by omega))).grown0 hg589)
        exact ⟨(mAt ms i3).t.slots.length - (j + 1), by omega, (j + 1), p5, rfl, (by omega), (by omega), hRw628, k629, (Nat.le_trans (Nat.le_trans (Nat.le_trans hhs hi558.size) hg563.size) hg589.size), rfl, e484, e485, e486, e487, hb590, k629, k630⟩
    ·
     have h631 := of_decide_eq_false h244
     refine Y5 ?_
     refine Y2 ?_
     refine Y2 ?_
     refine Z1 ?_
     refine Yy ?_
     refine Xv ?_
     refine X1 ?_
     refine Xc (v := .int .i64 (i3 : Int)) e240 rfl ?_
     refine Yx (c := (i3 : Int) + 1) rfl rfl (by omega) (by omega) (by omega) rfl ?_
     refine Xh (v := .int .i64 ((i3 : Int) + 1)) rfl rfl ?_
     refine Xa ?_
     refine Xv ?_
     exact ⟨ms.length - (i3 + 1), by omega, (i3 + 1), p4, rfl, (by omega), (by omega), hRows, hOt, hhs, rfl, e237, e238, e239, hb234, hOt, k242⟩
   ·
    have h632 := of_decide_eq_false h230
    refine Y5 ?_
    refine Y2 ?_
    refine Y2 ?_
    refine Z1 ?_
    refine Xv ?_
    refine Xt ?_
    refine Xb ?_
    refine Xc (v := .pointer (some ⟨R, 0, none⟩)) e225 rfl ?_
    refine Xn (vs := [.pointer (some ⟨R, 0, none⟩), .int .i64 30]) Y1 (Xg rfl (Xg rfl Xm)) rfl (Yr p3 30 (by omega) _ R bs _ _ _ k229 (by omega) (SlLt.low1 hs hb222 hlo) (by first | exact hb | exact fun b h => hb b (List.mem_of_mem_take h)) (by first | omega | (rw [List.length_take]; omega))) ?_
    rintro _ w638 ⟨k633, rfl, hk634, hk635, kR636, hg637⟩
    have hb639 := grown_trans hb222 hg637
    refine X4 (q := decide (k633 = 0)) rfl rfl rfl rfl ?_
    refine Xa ?_
    refine Xw rfl (fun h640 => ?_) (fun h640 => ?_)
    ·
     have h641 := of_decide_eq_true h640
     refine X1 ?_
     refine Xc (v := .slice (some ⟨Bt, 0, none⟩) ms.length ct) e227 rfl ?_
     refine Xc (v := .pointer (some ⟨R, 0, none⟩)) e225 rfl ?_
     refine Xc (v := .slice (some ⟨Bt, 0, none⟩) ms.length ct) e227 rfl ?_
     refine Ym (by kernel_rfl) rfl rfl ?_
     refine Xn (vs := [.pointer (some ⟨R, 0, none⟩), .int .i64 (ms.length : Int)]) Y1 (Xg rfl (Xg rfl Xm)) rfl (Yr (p3 + 1) (ms.length : Int) (by omega) _ R bs _ _ _ kR636 (by omega) (SlLt.low1 hs hb639 hlo) (by first | exact hb | exact fun b h => hb b (List.mem_of_mem_take h)) (by first | omega | (rw [List.length_take]; omega))) ?_
     rintro _ w647 ⟨k642, rfl, hk643, hk644, kR645, hg646⟩
     have hb648 := grown_trans hb639 hg646
     refine Xc (v := .pointer (some ⟨R, 0, none⟩)) e225 rfl ?_
     refine Xn (vs := [.pointer (some ⟨R, 0, none⟩), .int .i64 5]) Y1 (Xg rfl (Xg rfl Xm)) rfl (Yr (p3 + 1 + 1) 5 (by omega) _ R bs _ _ _ kR645 (by omega) (SlLt.low1 hs hb648 hlo) (by first | exact hb | exact fun b h => hb b (List.mem_of_mem_take h)) (by first | omega | (rw [List.length_take]; omega))) ?_
     rintro _ w654 ⟨k649, rfl, hk650, hk651, kR652, hg653⟩
     have hb655 := grown_trans hb648 hg653
     refine Yx (c := 1 + k649) rfl rfl (by omega) (by omega) (by omega) rfl ?_
     refine X8 (o' := (k642).toNat * 8) Zl rfl rfl (by omega) (by omega) (by omega) rfl ?_
     refine Xd (o' := (k642).toNat * 8) Yt rfl rfl rfl ?_
     have k656 := (((hOt.grown hg637 (Xf (by omega))).grown hg646 (Xf (by omega))).grown hg653 (Xf (by omega)))
     have hRw661 := (RowsD.lt (RowsD.lt (RowsD.lt hRows hg637 (by omega)) hg646 (by omega)) hg653 (by omega))
     have hve660 := (RowsD.at hRw661 (show (k642).toNat < ms.length by omega)).ve
     refine Gr (g := MTh.cells) (j := 0) (z := (mAt ms ((k642).toNat))) (z' := (⟨⟨1 + k649, ((mAt ms ((k642).toNat)).t.lab), (mAt ms ((k642).toNat)).t.ve, (mAt ms ((k642).toNat)).t.num, (mAt ms ((k642).toNat)).t.slots, (mAt ms ((k642).toNat)).t.queue, (mAt ms ((k642).toNat)).t.to⟩, (mAt ms ((k642).toNat)).sa, (mAt ms ((k642).toNat)).sc, (mAt ms ((k642).toNat)).qa, (mAt ms ((k642).toNat)).qc⟩ : MTh)) (v := .int .i64 (1 + k649)) X3 rfl rfl rfl Zy k656 (Ya (show (k642).toNat < ms.length by omega)) (by omega) rfl rfl ?_
     intro w657 hO658 hg659
     have hb662 := low1 hb655 hg659 (by omega)
     refine Xa ?_
     refine Xv ?_
     refine Xb ?_
     refine Xc (v := .slice (some ⟨Bt, 0, none⟩) ms.length ct) e227 rfl ?_
     refine Xh (v := .slice (some ⟨Bt, 0, none⟩) ms.length ct) rfl rfl ?_
     refine Xa ?_
     refine Xs ?_
     have hRw663 := (RowsD.typ hRw661 hg659 k656 (by decide) (by decide))
     obtain ⟨ms9, hc9, hx9, hs9⟩ := RowsD.tab _ (RowsD.setk (i := (k642).toNat) (m' := (⟨⟨1 + k649, ((mAt ms ((k642).toNat)).t.lab), (mAt ms ((k642).toNat)).t.ve, (mAt ms ((k642).toNat)).t.num, (mAt ms ((k642).toNat)).t.slots, (mAt ms ((k642).toNat)).t.queue, (mAt ms ((k642).toNat)).t.to⟩, (mAt ms ((k642).toNat)).sa, (mAt ms ((k642).toNat)).sc, (mAt ms ((k642).toNat)).qa, (mAt ms ((k642).toNat)).qc⟩ : MTh)) hRw663 (by omega) ⟨rfl, rfl, rfl⟩ ⟨rfl, rfl, rfl⟩ rfl)
     have hl9 := congrArg List.length hc9
     simp only [List.length_map, List.length_set] at hl9
     have ho9 := hO658
     rw [← Gz hc9] at ho9
     have k664 := (kR652.grown hg659 (Xf (by omega)))
     refine ⟨.slice (some ⟨Bt, 0, none⟩) ms.length ct, Yq rfl rfl, Bt, ct, ms9, (p3 + 1 + 1 + 1), ?_, ⟨SlG.own Zy ho9 hlBt, hx9⟩, hs9, by omega, by omega, by omega, k664, hb662⟩
     show Value.slice _ _ _ = Value.slice _ _ _
     congr 1; first | omega | (simp only [List.length_set]; omega)
    ·
     have h665 := of_decide_eq_false h640
     refine Xy ?_
     refine Xv ?_
     refine Xb ?_
     refine Xc (v := .slice (some ⟨Bt, 0, none⟩) ms.length ct) e227 rfl ?_
     refine Xh (v := .slice (some ⟨Bt, 0, none⟩) ms.length ct) rfl rfl ?_
     refine Xa ?_
     refine Xs ?_
     have hRw666 := (RowsD.lt hRows hg637 (by omega))
     have k667 := (hOt.grown hg637 (Xf (by omega)))
     obtain ⟨ms9, hc9, hx9, hs9⟩ := RowsD.tab _ hRw666
     have hl9 := congrArg List.length hc9
     simp only [List.length_map, List.length_set] at hl9
     have ho9 := k667
     rw [← Gz hc9] at ho9
     refine ⟨.slice (some ⟨Bt, 0, none⟩) ms.length ct, Yq rfl rfl, Bt, ct, ms9, (p3 + 1), ?_, ⟨SlG.own Zy ho9 hlBt, hx9⟩, hs9, by omega, by omega, by omega, kR636, hb639⟩
     show Value.slice _ _ _ = Value.slice _ _ _
     congr 1; first | omega | (simp only [List.length_set]; omega)
theorem N4 (p : Int) (hp : 0 ≤ p ∧ p ≤ 999999980000) (lo R : Nat) (bs : List Int) (a : Option Addr) (c : Nat) (w : World) (hR : Blk w R 108 #[.slice a bs.length c, .int .i64 p]) (hlo : lo ≤ R) (hs : SlLt lo w a 1 (bs.map bcell)) (hb : ∀ b ∈ bs, 0 ≤ b ∧ b ≤ 255) (hn : bs.length ≤ 1048576) : CallsR Tryd.prog 30 #[.pointer (some ⟨R, 0, none⟩)] w (fun v w' => ∃ (B cap : Nat) (ms : List MTh) (p' : Int), v = .slice (some ⟨B, 0, none⟩) ms.length cap ∧ TabG w.heap.size w' (some ⟨B, 0, none⟩) ms ∧ Small ms ∧ (3 ≤ ms.length ∧ ms.length ≤ 8) ∧ p ≤ p' ∧ p' ≤ p + 4000 ∧ Blk w' R 108 #[.slice a bs.length c, .int .i64 p'] ∧ w.grownBy w' (some R)) := by
 refine X0 (n := 24) Tryd.func30 rfl Tryd.ntmps30 rfl ?_
 have hb0 := World.grownBy.refl w (some R)
 have hRlt := hR.lt
 refine Xb ?_
 refine Xh (v := .slice none 0 0) rfl rfl ?_
 refine Xa ?_
 refine Xb ?_
 refine Xc (v := .pointer (some ⟨R, 0, none⟩)) rfl rfl ?_
 refine Xn (vs := [.pointer (some ⟨R, 0, none⟩)]) S8 (Xg rfl Xm) rfl (Uy p (by omega) _ R bs _ _ _ hR (by omega) (SlLt.low1 hs hb0 hlo) (by first | exact hb | exact fun b h => hb b (List.mem_of_mem_take h)) (by first | omega | (rw [List.length_take]; omega))) ?_
 rintro _ w112 ⟨B101, cap102, ms103, p104, rfl, hTG105, hTS106, hTn107, hp108, hp109, kR110, hg111⟩
 have hb113 := grown_trans hb0 hg111
 have hTG114 := TabG.mono hTG105 hb0.size
 have hTl115 := hTS106.len
 refine Xh (v := .slice (some ⟨B101, 0, none⟩) ms103.length cap102) rfl rfl ?_
 refine Xa ?_
 refine Xt ?_
 refine Xb ?_
 refine Xh (v := .int .i64 0) rfl rfl ?_
 refine Xa ?_
 refine Ye ?_
 refine Zd (fun mm f' w' => ∃ (i : Nat) (p1 : Int) (B : Nat) (cap : Nat) (ms : List MTh), mm = 4 - i ∧ i ≤ 4 ∧ (p ≤ p1 ∧ p1 ≤ p + 600 + 601 * (i : Int)) ∧ TabG w.heap.size w' (some ⟨B, 0, none⟩) ms ∧ Small ms ∧ (3 ≤ ms.length ∧ ms.length ≤ 8) ∧ f' 3 = .slice (some ⟨B, 0, none⟩) ms.length cap ∧ f' 4 = .int .i64 (i : Int) ∧ f' 0 = .pointer (some ⟨R, 0, none⟩) ∧ f' 2 = .slice none 0 0 ∧ w.grownBy w' (some R) ∧ Blk w' R 108 #[.slice a bs.length c, .int .i64 p1]) (4 - 0) ⟨0, p104, B101, cap102, ms103, rfl, (Nat.zero_le _), (by omega), hTG114, hTS106, hTn107, rfl, rfl, rfl, rfl, hb113, kR110⟩ ?_
 rintro mm f116 w117 ⟨i, p1, B, cap, ms, hm119, hi, hpp, hTG, hTS, hTn, e120, e121, e122, e123, hb118, k124⟩
 have hTl125 := hTS.len
 refine Xt ?_
 refine Xb ?_
 refine Xc (v := .int .i64 (i : Int)) e121 rfl ?_
 refine Y4 (q := decide ((i : Int) < 4)) rfl rfl rfl rfl ?_
 refine Xc (v := .bool (decide ((i : Int) < 4))) rfl rfl ?_
 rcases Yb (decide ((i : Int) < 4)) with h137 | h137
 ·
  have h138 := of_decide_eq_true h137
  refine Xe rfl rfl rfl h137 ?_
  refine Xc (v := .pointer (some ⟨R, 0, none⟩)) e122 rfl ?_
  refine Xe rfl rfl rfl h137 ?_
  refine Xn (vs := [.pointer (some ⟨R, 0, none⟩), .int .i64 16]) Y1 (Xg rfl (Xg rfl Xm)) rfl (Yr p1 16 (by omega) _ R bs _ _ _ k124 (by omega) (SlLt.low1 hs hb118 hlo) (by first | exact hb | exact fun b h => hb b (List.mem_of_mem_take h)) (by first | omega | (rw [List.length_take]; omega))) ?_
  rintro _ w144 ⟨k139, rfl, hk140, hk141, kR142, hg143⟩
  have hb145 := grown_trans hb118 hg143
  refine Xe rfl rfl rfl h137 ?_
  refine Zq (q := decide (0 < k139)) rfl rfl rfl rfl ?_
  refine Xr (v := .bool (decide (0 < k139))) rfl h137 rfl rfl ?_
  refine Xc (v := .bool (decide (0 < k139))) rfl rfl ?_
  rcases Yb (decide (0 < k139)) with h146 | h146
  ·
   have h147 := of_decide_eq_true h146
   refine Xe rfl rfl rfl h146 ?_
   refine Xc (v := .slice (some ⟨B, 0, none⟩) ms.length cap) e120 rfl ?_
   refine Xe rfl rfl rfl h146 ?_
   have hTG148 := (TabG.lt hTG hg143 (by omega))
   refine Xn (vs := [.slice (some ⟨B, 0, none⟩) ms.length cap]) Pn (Xg rfl Xm) rfl (Vg  _ ms _ _ (TabG.at hTG148) hTl125 (by omega)) ?_
   rintro _ w149 ⟨rfl, hg150⟩
   have hb151 := low0 hb145 hg150
   refine Xe rfl rfl rfl h146 ?_
   refine Yk (b' := !tableOk (tabT ms)) rfl rfl rfl ?_
   refine Xr (v := .bool (!tableOk (tabT ms))) rfl h146 rfl rfl ?_
   refine Xa ?_
   refine Xw rfl (fun h152 => ?_) (fun h152 => ?_)
   ·
    have h153 := Zn h152
    refine Xy ?_
    refine Xv ?_
    refine Xt ?_
    refine Ye ?_
    refine X1 ?_
    refine Xc (v := .pointer (some ⟨R, 0, none⟩)) e122 rfl ?_
    have k154 := (kR142.grown0 hg150)
    refine Xn (vs := [.pointer (some ⟨R, 0, none⟩)]) S8 (Xg rfl Xm) rfl (Uy (p1 + 1) (by omega) _ R bs _ _ _ k154 (by omega) (SlLt.low1 hs hb151 hlo) (by first | exact hb | exact fun b h => hb b (List.mem_of_mem_take h)) (by first | omega | (rw [List.length_take]; omega))) ?_
    rintro _ w166 ⟨B155, cap156, ms157, p158, rfl, hTG159, hTS160, hTn161, hp162, hp163, kR164, hg165⟩
    have hb167 := grown_trans hb151 hg165
    have hTG168 := TabG.mono hTG159 hb151.size
    have hTl169 := hTS160.len
    refine Xh (v := .slice (some ⟨B155, 0, none⟩) ms157.length cap156) rfl rfl ?_
    refine Xa ?_
    refine Yy ?_
    refine Xv ?_
    refine X1 ?_
    refine Xc (v := .int .i64 (i : Int)) e121 rfl ?_
    refine Yx (c := (i : Int) + 1) rfl rfl (by omega) (by omega) (by omega) rfl ?_
    refine Xh (v := .int .i64 ((i : Int) + 1)) rfl rfl ?_
    refine Xa ?_
    refine Xv ?_
    exact ⟨4 - (i + 1), by omega, (i + 1), p158, B155, cap156, ms157, rfl, (by omega), (by omega), hTG168, hTS160, hTn161, rfl, rfl, e122, e123, hb167, kR164⟩
   ·
    have h170 := Zh h152
    refine Y5 ?_
    refine Y2 ?_
    refine Y2 ?_
    refine Z1 ?_
    refine Xv ?_
    refine Xb ?_
    refine Xc (v := .slice (some ⟨B, 0, none⟩) ms.length cap) e120 rfl ?_
    refine Xh (v := .slice (some ⟨B, 0, none⟩) ms.length cap) rfl rfl ?_
    refine Xa ?_
    refine Xs ?_
    have hTG171 := (TabG.low hTG148 hg150)
    have k172 := (kR142.grown0 hg150)
    exact ⟨.slice (some ⟨B, 0, none⟩) ms.length cap, Yq rfl rfl, B, cap, ms, (p1 + 1), rfl, hTG171, hTS, hTn, by omega, by omega, k172, hb151⟩
  ·
   have h173 := of_decide_eq_false h146
   iterate 3 refine Xk rfl rfl rfl h146 rfl ?_
   refine Xl (v := .bool false) rfl h146 rfl rfl ?_
   refine Xa ?_
   refine Zr rfl rfl ?_
   refine Y5 ?_
   refine Y2 ?_
   refine Y2 ?_
   refine Z1 ?_
   refine Xv ?_
   refine Xb ?_
   refine Xc (v := .slice (some ⟨B, 0, none⟩) ms.length cap) e120 rfl ?_
   refine Xh (v := .slice (some ⟨B, 0, none⟩) ms.length cap) rfl rfl ?_
   refine Xa ?_
   refine Xs ?_
   have hTG174 := (TabG.lt hTG hg143 (by omega))
   exact ⟨.slice (some ⟨B, 0, none⟩) ms.length cap, Yq rfl rfl, B, cap, ms, (p1 + 1), rfl, hTG174, hTS, hTn, by omega, by omega, kR142, hb145⟩
 ·
  have h175 := of_decide_eq_false h137
  iterate 3 refine Xk rfl rfl rfl h137 rfl ?_
  refine Xl (v := .bool false) rfl h137 rfl rfl ?_
  refine Xc (v := .bool false) rfl rfl ?_
  iterate 3 refine Xk rfl rfl rfl rfl rfl ?_
  refine Xl (v := .bool false) rfl rfl rfl rfl ?_
  refine Xa ?_
  refine Zr rfl rfl ?_
  refine Y5 ?_
  refine Y2 ?_
  refine Y2 ?_
  refine Z1 ?_
  refine Xv ?_
  refine Xb ?_
  refine Xc (v := .slice (some ⟨B, 0, none⟩) ms.length cap) e120 rfl ?_
  refine Xh (v := .slice (some ⟨B, 0, none⟩) ms.length cap) rfl rfl ?_
  refine Xa ?_
  refine Xs ?_
  exact ⟨.slice (some ⟨B, 0, none⟩) ms.length cap, Yq rfl rfl, B, cap, ms, p1, rfl, hTG, hTS, hTn, by omega, by omega, k124, hb118⟩
end Go.Proofs.YtfoplmgoiblkgaaDoor
end
section
namespace Go.Dw
def sees (ts : List Th) (run thing : Int) : Bool := flow (thAt ts thing).lab (thAt ts run).lab
def touches (ts : List Th) (run thing : Int) : Bool := flow (thAt ts run).lab (thAt ts thing).lab
theorem Ph {ms : List MTh} {run thing : Int} : flow (mAt ms (thing - 1).toNat).t.lab (mAt ms (run - 1).toNat).t.lab = sees (tabT ms) run thing := by unfold sees; rw [Js, Js]
theorem Wo {ms : List MTh} {run thing : Int} : flow (mAt ms (run - 1).toNat).t.lab (mAt ms (thing - 1).toNat).t.lab = touches (tabT ms) run thing := by unfold touches; rw [Js, Js]
def kindFor (c k : Int) : Bool :=
  if c = 1 ∨ c = 2 then decide (k = 1) else if c = 4 ∨ c = 5 then decide (k = 2) else if c = 6 ∨ c = 7 then decide (k = 4) else if c = 9 then decide (k = 5) else (decide (k = 1) || decide (k = 2)) || decide (k = 4)
def need0 (c : Int) : Bool := if c = 1 ∨ c = 4 then true else if c = 7 then true else false
def need1 (c : Int) : Bool := if c = 1 ∨ c = 4 then false else true
def live (ts : List Th) (r : Rt) : Bool := inR r.th 1 (ts.length : Int) && decide ((thAt ts r.th).ve = r.ve)
theorem Pk {ms : List MTh} {r : Rt} : (inR r.th 1 (ms.length : Int) && decide ((mAt ms (r.th - 1).toNat).t.ve = r.ve)) = live (tabT ms) r := by unfold live; rw [Js, Zz]
def slotAt (ts : List Th) (k j : Int) : Rt := rAt (thAt ts k).slots j.toNat
theorem Q1 {ms : List MTh} {k j : Int} : rAt (mAt ms (k - 1).toNat).t.slots j.toNat = slotAt (tabT ms) k j := by unfold slotAt; rw [Js]
def chk1 (ts : List Th) (q : Cl) (r : Rt) : Bool := (((decide (r.th = 0)) || (!kindFor q.kind (thAt ts r.th).kind)) || (need0 q.kind && !r.rd)) || (need1 q.kind && !r.wr)
def chk1m (ms : List MTh) (q : Cl) (r : Rt) : Bool := (((decide (r.th = 0)) || (!kindFor q.kind (mAt ms (r.th - 1).toNat).t.kind)) || (need0 q.kind && !r.rd)) || (need1 q.kind && !r.wr)
theorem Gf {ms : List MTh} {q : Cl} {r : Rt} : chk1m ms q r = chk1 (tabT ms) q r := by unfold chk1m chk1; rw [Js]
def chk2 (ts : List Th) (q : Cl) (r : Rt) : Bool := (need0 q.kind && !sees ts q.run r.th) || (need1 q.kind && !touches ts q.run r.th)
def chk3 (ts : List Th) (q : Cl) (r : Rt) : Bool := sees ts q.run r.th && !live ts r
def check1 (ts : List Th) (q : Cl) : Int :=
  if q.kind = 3 then 0 else if chk1 ts q (slotAt ts q.run q.a) = true then -1 else if chk2 ts q (slotAt ts q.run q.a) = true then -2 else if chk3 ts q (slotAt ts q.run q.a) = true then -3 else 0
section
variable {ms : List MTh} {q : Cl}
theorem U6 (h : decide (q.kind = 3) = true) : (0 : Int) = check1 (tabT ms) q := by unfold check1; rw [if_pos (of_decide_eq_true h)]
theorem Gh (h : decide (q.kind = 3) = false) (h1 : chk1m ms q (rAt (mAt ms (q.run - 1).toNat).t.slots q.a.toNat) = true) : (-1 : Int) = check1 (tabT ms) q := by
  rw [Gf, Q1] at h1
  unfold check1
  rw [if_neg (of_decide_eq_false h), if_pos h1]
theorem Lv (h : decide (q.kind = 3) = false) (h1 : chk1m ms q (rAt (mAt ms (q.run - 1).toNat).t.slots q.a.toNat) = false) (h2 : chk2 (tabT ms) q (rAt (mAt ms (q.run - 1).toNat).t.slots q.a.toNat) = true) : (-2 : Int) = check1 (tabT ms) q := by
  rw [Gf, Q1] at h1
  rw [Q1] at h2
  unfold check1
  rw [if_neg (of_decide_eq_false h), if_neg (by rw [h1]; exact Bool.false_ne_true), if_pos h2]
theorem Lg (h : decide (q.kind = 3) = false) (h1 : chk1m ms q (rAt (mAt ms (q.run - 1).toNat).t.slots q.a.toNat) = false) (h2 : chk2 (tabT ms) q (rAt (mAt ms (q.run - 1).toNat).t.slots q.a.toNat) = false) (h3 : chk3 (tabT ms) q (rAt (mAt ms (q.run - 1).toNat).t.slots q.a.toNat) = true) : (-3 : Int) = check1 (tabT ms) q := by
  rw [Gf, Q1] at h1
  rw [Q1] at h2 h3
  unfold check1
  rw [if_neg (of_decide_eq_false h), if_neg (by rw [h1]; exact Bool.false_ne_true), if_neg (by rw [h2]; exact Bool.false_ne_true), if_pos h3]
theorem Lu (h : decide (q.kind = 3) = false) (h1 : chk1m ms q (rAt (mAt ms (q.run - 1).toNat).t.slots q.a.toNat) = false) (h2 : chk2 (tabT ms) q (rAt (mAt ms (q.run - 1).toNat).t.slots q.a.toNat) = false) (h3 : chk3 (tabT ms) q (rAt (mAt ms (q.run - 1).toNat).t.slots q.a.toNat) = false) : (0 : Int) = check1 (tabT ms) q := by
  rw [Gf, Q1] at h1
  rw [Q1] at h2 h3
  unfold check1
  rw [if_neg (of_decide_eq_false h), if_neg (by rw [h1]; exact Bool.false_ne_true), if_neg (by rw [h2]; exact Bool.false_ne_true), if_neg (by rw [h3]; exact Bool.false_ne_true)]
theorem Ku (h : tableOk (tabT ms) = true) {i j : Nat} (hi : i < ms.length) (hj : j < (mAt ms i).t.slots.length) : 0 ≤ (rAt (mAt ms i).t.slots j).th ∧ (rAt (mAt ms i).t.slots j).th ≤ (ms.length : Int) ∧ (rAt (mAt ms i).t.slots j).th ≤ 8 ∧ rightOk (rAt (mAt ms i).t.slots j) = true := by
  have h1 := Lj h hi
  unfold rowOk at h1
  rw [Bool.and_eq_true] at h1
  have hr := List.all_eq_true.1 h1.2 _ (List.mem_of_getElem? (Qg hj))
  have hok := List.all_eq_true.1 (U3 (Bool.and_eq_true_iff.1 h1.1).1) _ (List.mem_of_getElem? (Qg hj))
  have h8 := U5 hok
  refine ⟨h8.1, ?_, h8.2, hok⟩
  unfold rightTo at hr
  rw [Bool.or_eq_true] at hr
  rcases hr with h0 | h0
  · have := of_decide_eq_true h0
    omega
  · have := Zb.1 (Bool.and_eq_true_iff.1 h0).1
    rw [Zz] at this
    omega
theorem Z5 {k kd : Int} (h : kindAt (tabT ms) k kd = true) : (1 ≤ k ∧ k ≤ (ms.length : Int)) ∧ (mAt ms (k - 1).toNat).t.kind = kd := by
  rw [← Vk] at h
  rw [Bool.and_eq_true] at h
  exact ⟨Zb.1 h.1, of_decide_eq_true h.2⟩
theorem R0 {t : Th} (h : thingOk t = true) (hk : t.kind = 2 ∨ t.kind = 3) : t.slots.length = 4 := by
  have h5 := (Jk h).2.2.2.2.1
  unfold slotsOk at h5
  rw [if_pos hk] at h5
  exact of_decide_eq_true (Bool.and_eq_true_iff.1 h5).1
theorem Jc (hT : tableOk (tabT ms) = true) {k : Int} (h : kindAt (tabT ms) k 3 = true) : (mAt ms (k - 1).toNat).t.slots.length = 4 := by
  have h1 := Z5 h
  exact R0 (Wu hT (by omega)) (Or.inr h1.2)
end
end Go.Dw
end
section
namespace Go.Proofs.YtfoplmgoiblkgaaDoor
open Go.RowKit Go.Dw
set_option maxRecDepth 100000
set_option maxHeartbeats 4000000
set_option linter.unusedSimpArgs false
set_option linter.unusedVariables false
theorem Te : goFn Tryd.prog 23 = true := by kernel_rfl
theorem U7 : goFn Tryd.prog 45 = true := by kernel_rfl
theorem Mj : goFn Tryd.prog 64 = true := by kernel_rfl
theorem Tg : goFn Tryd.prog 72 = true := by kernel_rfl
theorem Nu (run thing : Int) (w : World) (ms : List MTh) (a : Option Addr) (c : Nat) (ht : TabAt w a ms) (hlen : TabLen ms) (hn : ms.length ≤ 1048576) (hT : tableOk (tabT ms) = true) (hr : 1 ≤ run ∧ run ≤ (ms.length : Int)) (hth : 1 ≤ thing ∧ thing ≤ (ms.length : Int)) : CallsR Tryd.prog 46 #[.slice a ms.length c, .int .i64 run, .int .i64 thing] w (fun v w' => v = .bool (sees (tabT ms) run thing) ∧ w.grownBy w' none) := by
 refine X0 (n := 20) Tryd.func46 rfl Tryd.ntmps46 rfl ?_
 have hb0 := World.grownBy.refl w none
 refine Xb ?_
 refine Xh (v := .bool false) rfl rfl ?_
 refine Xa ?_
 refine Xt ?_
 obtain ⟨b145, q146, o147, ha148, ho149, hr150⟩ := SlAt.at (TabAt.low ht hb0).1 (Yn (Ya (show (thing - 1).toNat < ms.length by omega)))
 have hle151 := TabLen.at hlen (Ya (show (thing - 1).toNat < ms.length by omega))
 obtain ⟨b154, q155, o156, ha157, ho158, hr159⟩ := SlAt.at (TabAt.low ht hb0).1 (Yn (Ya (show (run - 1).toNat < ms.length by omega)))
 have hle160 := TabLen.at hlen (Ya (show (run - 1).toNat < ms.length by omega))
 refine Ze (m := 12) (vals := [(7, .slice a ms.length c), (8, .int .i64 thing), (9, .int .i64 (thing - 1)), (10, .pointer (some ⟨b145, o147, none⟩)), (11, .pointer (some ⟨b145, o147 + 1, none⟩)), (12, .agg #[.int .i64 ((mAt ms ((thing - 1).toNat)).t.lab.s), .int .i64 ((mAt ms ((thing - 1).toNat)).t.lab.v)]), (13, .slice a ms.length c), (14, .int .i64 run), (15, .int .i64 (run - 1)), (16, .pointer (some ⟨b154, o156, none⟩)), (17, .pointer (some ⟨b154, o156 + 1, none⟩)), (18, .agg #[.int .i64 ((mAt ms ((run - 1).toNat)).t.lab.s), .int .i64 ((mAt ms ((run - 1).toNat)).t.lab.v)])]) (fun w' => w.grownBy w' none) Zi (by kernel_rfl) (Yl _) ?_ ?_
 ·
  refine Xj rfl (fun w164 hi165 => ?_) ?_
  ·
   have hb166 := low0 hb0 hi165
   refine Xc (v := .slice a ms.length c) rfl rfl ?_
   exact Xa ⟨rfl, hi165⟩
  refine Xj rfl (fun w167 hi168 => ?_) ?_
  ·
   have hb169 := low0 hb0 hi168
   refine Xc (v := .int .i64 thing) rfl rfl ?_
   exact Xa ⟨rfl, hi168⟩
  refine Xj rfl (fun w170 hi171 => ?_) ?_
  ·
   have hb172 := low0 hb0 hi171
   refine Y3 (c := thing - 1) rfl rfl (by omega) (by omega) (by omega) rfl ?_
   exact Xa ⟨rfl, hi171⟩
  refine Xj rfl (fun w173 hi174 => ?_) ?_
  ·
   have hb175 := low0 hb0 hi174
   refine Yd Zl rfl rfl ha148 ho149 (by omega) (by omega) rfl ?_
   exact Xa ⟨rfl, hi174⟩
  refine Xj rfl (fun w176 hi177 => ?_) ?_
  ·
   have hb178 := low0 hb0 hi177
   refine Xd (o' := o147 + 1) Q3 rfl rfl rfl ?_
   exact Xa ⟨rfl, hi177⟩
  refine Xj rfl (fun w179 hi180 => ?_) ?_
  ·
   have hb181 := low0 hb0 hi180
   refine Xu (vs := [.int .i64 ((mAt ms ((thing - 1).toNat)).t.lab.s), .int .i64 ((mAt ms ((thing - 1).toNat)).t.lab.v)]) Qd rfl rfl (Za (Yo hr150 hi180) 1 2 rfl) rfl ?_
   exact Xa ⟨rfl, hi180⟩
  refine Xj rfl (fun w182 hi183 => ?_) ?_
  ·
   have hb184 := low0 hb0 hi183
   refine Xc (v := .slice a ms.length c) rfl rfl ?_
   exact Xa ⟨rfl, hi183⟩
  refine Xj rfl (fun w185 hi186 => ?_) ?_
  ·
   have hb187 := low0 hb0 hi186
   refine Xc (v := .int .i64 run) rfl rfl ?_
   exact Xa ⟨rfl, hi186⟩
  refine Xj rfl (fun w188 hi189 => ?_) ?_
  ·
   have hb190 := low0 hb0 hi189
   refine Y3 (c := run - 1) rfl rfl (by omega) (by omega) (by omega) rfl ?_
   exact Xa ⟨rfl, hi189⟩
  refine Xj rfl (fun w191 hi192 => ?_) ?_
  ·
   have hb193 := low0 hb0 hi192
   refine Yd Zl rfl rfl ha157 ho158 (by omega) (by omega) rfl ?_
   exact Xa ⟨rfl, hi192⟩
  refine Xj rfl (fun w194 hi195 => ?_) ?_
  ·
   have hb196 := low0 hb0 hi195
   refine Xd (o' := o156 + 1) Q3 rfl rfl rfl ?_
   exact Xa ⟨rfl, hi195⟩
  refine Xj rfl (fun w197 hi198 => ?_) ?_
  ·
   have hb199 := low0 hb0 hi198
   refine Xu (vs := [.int .i64 ((mAt ms ((run - 1).toNat)).t.lab.s), .int .i64 ((mAt ms ((run - 1).toNat)).t.lab.v)]) Qd rfl rfl (Za (Yo hr159 hi198) 1 2 rfl) rfl ?_
   exact Xa ⟨rfl, hi198⟩
  exact Zj
 ·
  intro w200 hi201
  have hb202 := low0 hb0 hi201
  have hl203 : labelOk ((mAt ms ((thing - 1).toNat)).t.lab) = true := J6 hT (show ((thing - 1).toNat) < ms.length by omega)
  have hl204 : labelOk ((mAt ms ((run - 1).toNat)).t.lab) = true := J6 hT (show ((run - 1).toNat) < ms.length by omega)
  refine Xn (vs := [.agg #[.int .i64 ((mAt ms ((thing - 1).toNat)).t.lab.s), .int .i64 ((mAt ms ((thing - 1).toNat)).t.lab.v)], .agg #[.int .i64 ((mAt ms ((run - 1).toNat)).t.lab.s), .int .i64 ((mAt ms ((run - 1).toNat)).t.lab.v)]]) Tg (Xg rfl (Xg rfl Xm)) rfl (Hl ((mAt ms ((thing - 1).toNat)).t.lab) ((mAt ms ((run - 1).toNat)).t.lab) hl203 hl204 _) ?_
  rintro _ w205 ⟨rfl, hg206⟩
  have hb207 := low0 hb202 hg206
  refine Xh (v := .bool (flow ((mAt ms ((thing - 1).toNat)).t.lab) ((mAt ms ((run - 1).toNat)).t.lab))) rfl rfl ?_
  refine Xa ?_
  refine Xv ?_
  refine Xs ?_
  refine ⟨.bool (flow ((mAt ms ((thing - 1).toNat)).t.lab) ((mAt ms ((run - 1).toNat)).t.lab)), Yq rfl rfl, ?_, hb207⟩
  exact congrArg Value.bool Ph
theorem Vn (run thing : Int) (w : World) (ms : List MTh) (a : Option Addr) (c : Nat) (ht : TabAt w a ms) (hlen : TabLen ms) (hn : ms.length ≤ 1048576) (hT : tableOk (tabT ms) = true) (hr : 1 ≤ run ∧ run ≤ (ms.length : Int)) (hth : 1 ≤ thing ∧ thing ≤ (ms.length : Int)) : CallsR Tryd.prog 47 #[.slice a ms.length c, .int .i64 run, .int .i64 thing] w (fun v w' => v = .bool (touches (tabT ms) run thing) ∧ w.grownBy w' none) := by
 refine X0 (n := 20) Tryd.func47 rfl Tryd.ntmps47 rfl ?_
 have hb0 := World.grownBy.refl w none
 refine Xb ?_
 refine Xh (v := .bool false) rfl rfl ?_
 refine Xa ?_
 refine Xt ?_
 obtain ⟨b145, q146, o147, ha148, ho149, hr150⟩ := SlAt.at (TabAt.low ht hb0).1 (Yn (Ya (show (run - 1).toNat < ms.length by omega)))
 have hle151 := TabLen.at hlen (Ya (show (run - 1).toNat < ms.length by omega))
 obtain ⟨b154, q155, o156, ha157, ho158, hr159⟩ := SlAt.at (TabAt.low ht hb0).1 (Yn (Ya (show (thing - 1).toNat < ms.length by omega)))
 have hle160 := TabLen.at hlen (Ya (show (thing - 1).toNat < ms.length by omega))
 refine Ze (m := 12) (vals := [(7, .slice a ms.length c), (8, .int .i64 run), (9, .int .i64 (run - 1)), (10, .pointer (some ⟨b145, o147, none⟩)), (11, .pointer (some ⟨b145, o147 + 1, none⟩)), (12, .agg #[.int .i64 ((mAt ms ((run - 1).toNat)).t.lab.s), .int .i64 ((mAt ms ((run - 1).toNat)).t.lab.v)]), (13, .slice a ms.length c), (14, .int .i64 thing), (15, .int .i64 (thing - 1)), (16, .pointer (some ⟨b154, o156, none⟩)), (17, .pointer (some ⟨b154, o156 + 1, none⟩)), (18, .agg #[.int .i64 ((mAt ms ((thing - 1).toNat)).t.lab.s), .int .i64 ((mAt ms ((thing - 1).toNat)).t.lab.v)])]) (fun w' => w.grownBy w' none) Zi (by kernel_rfl) (Yl _) ?_ ?_
 ·
  refine Xj rfl (fun w164 hi165 => ?_) ?_
  ·
   have hb166 := low0 hb0 hi165
   refine Xc (v := .slice a ms.length c) rfl rfl ?_
   exact Xa ⟨rfl, hi165⟩
  refine Xj rfl (fun w167 hi168 => ?_) ?_
  ·
   have hb169 := low0 hb0 hi168
   refine Xc (v := .int .i64 run) rfl rfl ?_
   exact Xa ⟨rfl, hi168⟩
  refine Xj rfl (fun w170 hi171 => ?_) ?_
  ·
   have hb172 := low0 hb0 hi171
   refine Y3 (c := run - 1) rfl rfl (by omega) (by omega) (by omega) rfl ?_
   exact Xa ⟨rfl, hi171⟩
  refine Xj rfl (fun w173 hi174 => ?_) ?_
  ·
   have hb175 := low0 hb0 hi174
   refine Yd Zl rfl rfl ha148 ho149 (by omega) (by omega) rfl ?_
   exact Xa ⟨rfl, hi174⟩
  refine Xj rfl (fun w176 hi177 => ?_) ?_
  ·
   have hb178 := low0 hb0 hi177
   refine Xd (o' := o147 + 1) Q3 rfl rfl rfl ?_
   exact Xa ⟨rfl, hi177⟩
  refine Xj rfl (fun w179 hi180 => ?_) ?_
  ·
   have hb181 := low0 hb0 hi180
   refine Xu (vs := [.int .i64 ((mAt ms ((run - 1).toNat)).t.lab.s), .int .i64 ((mAt ms ((run - 1).toNat)).t.lab.v)]) Qd rfl rfl (Za (Yo hr150 hi180) 1 2 rfl) rfl ?_
   exact Xa ⟨rfl, hi180⟩
  refine Xj rfl (fun w182 hi183 => ?_) ?_
  ·
   have hb184 := low0 hb0 hi183
   refine Xc (v := .slice a ms.length c) rfl rfl ?_
   exact Xa ⟨rfl, hi183⟩
  refine Xj rfl (fun w185 hi186 => ?_) ?_
  ·
   have hb187 := low0 hb0 hi186
   refine Xc (v := .int .i64 thing) rfl rfl ?_
   exact Xa ⟨rfl, hi186⟩
  refine Xj rfl (fun w188 hi189 => ?_) ?_
  ·
   have hb190 := low0 hb0 hi189
   refine Y3 (c := thing - 1) rfl rfl (by omega) (by omega) (by omega) rfl ?_
   exact Xa ⟨rfl, hi189⟩
  refine Xj rfl (fun w191 hi192 => ?_) ?_
  ·
   have hb193 := low0 hb0 hi192
   refine Yd Zl rfl rfl ha157 ho158 (by omega) (by omega) rfl ?_
   exact Xa ⟨rfl, hi192⟩
  refine Xj rfl (fun w194 hi195 => ?_) ?_
  ·
   have hb196 := low0 hb0 hi195
   refine Xd (o' := o156 + 1) Q3 rfl rfl rfl ?_
   exact Xa ⟨rfl, hi195⟩
  refine Xj rfl (fun w197 hi198 => ?_) ?_
  ·
   have hb199 := low0 hb0 hi198
   refine Xu (vs := [.int .i64 ((mAt ms ((thing - 1).toNat)).t.lab.s), .int .i64 ((mAt ms ((thing - 1).toNat)).t.lab.v)]) Qd rfl rfl (Za (Yo hr159 hi198) 1 2 rfl) rfl ?_
   exact Xa ⟨rfl, hi198⟩
  exact Zj
 ·
  intro w200 hi201
  have hb202 := low0 hb0 hi201
  have hl203 : labelOk ((mAt ms ((run - 1).toNat)).t.lab) = true := J6 hT (show ((run - 1).toNat) < ms.length by omega)
  have hl204 : labelOk ((mAt ms ((thing - 1).toNat)).t.lab) = true := J6 hT (show ((thing - 1).toNat) < ms.length by omega)
  refine Xn (vs := [.agg #[.int .i64 ((mAt ms ((run - 1).toNat)).t.lab.s), .int .i64 ((mAt ms ((run - 1).toNat)).t.lab.v)], .agg #[.int .i64 ((mAt ms ((thing - 1).toNat)).t.lab.s), .int .i64 ((mAt ms ((thing - 1).toNat)).t.lab.v)]]) Tg (Xg rfl (Xg rfl Xm)) rfl (Hl ((mAt ms ((run - 1).toNat)).t.lab) ((mAt ms ((thing - 1).toNat)).t.lab) hl203 hl204 _) ?_
  rintro _ w205 ⟨rfl, hg206⟩
  have hb207 := low0 hb202 hg206
  refine Xh (v := .bool (flow ((mAt ms ((run - 1).toNat)).t.lab) ((mAt ms ((thing - 1).toNat)).t.lab))) rfl rfl ?_
  refine Xa ?_
  refine Xv ?_
  refine Xs ?_
  refine ⟨.bool (flow ((mAt ms ((run - 1).toNat)).t.lab) ((mAt ms ((thing - 1).toNat)).t.lab)), Yq rfl rfl, ?_, hb207⟩
  exact congrArg Value.bool Wo
theorem Jf (q k : Int) (w : World) : CallsR Tryd.prog 45 #[.int .i64 q, .int .i64 k] w (fun v w' => v = .bool (kindFor q k) ∧ w.grownBy w' none) := by
 refine X0 (n := 35) Tryd.func45 rfl Tryd.ntmps45 rfl ?_
 have hb0 := World.grownBy.refl w none
 refine Xb ?_
 refine Xh (v := .bool false) rfl rfl ?_
 refine Xa ?_
 refine Xt ?_
 refine Xb ?_
 refine Xc (v := .int .i64 q) rfl rfl ?_
 refine Xa ?_
 refine Ye ?_
 refine Xt ?_
 refine Xb ?_
 refine X4 (q := decide (q = 1)) rfl rfl rfl rfl ?_
 refine Xh (v := .bool (decide (q = 1))) rfl rfl ?_
 refine Xa ?_
 refine Xw rfl (fun h101 => ?_) (fun h101 => ?_)
 ·
  have h102 := of_decide_eq_true h101
  refine Xy ?_
  refine Xv ?_
  refine Zc rfl h101 ?_
  refine Xb ?_
  refine Xc (v := .int .i64 k) rfl rfl ?_
  refine X4 (q := decide (k = 1)) rfl rfl rfl rfl ?_
  refine Xh (v := .bool (decide (k = 1))) rfl rfl ?_
  refine Xa ?_
  refine Xs ?_
  refine Y6 ?_
  refine Yi ?_
  refine ⟨.bool (decide (k = 1)), Yq rfl rfl, ?_, hb0⟩
  first | (simp [kindFor, h102]; done) | (unfold kindFor; repeat (first | rw [if_pos (by omega)] | rw [if_neg (by omega)]))
 ·
  have h103 := of_decide_eq_false h101
  refine X1 ?_
  refine X4 (q := decide (q = 2)) rfl rfl rfl rfl ?_
  refine Xh (v := .bool (decide (q = 2))) rfl rfl ?_
  refine Xa ?_
  refine Xv ?_
  refine Xw rfl (fun h104 => ?_) (fun h104 => ?_)
  ·
   have h105 := of_decide_eq_true h104
   refine Xb ?_
   refine Xc (v := .int .i64 k) rfl rfl ?_
   refine X4 (q := decide (k = 1)) rfl rfl rfl rfl ?_
   refine Xh (v := .bool (decide (k = 1))) rfl rfl ?_
   refine Xa ?_
   refine Xs ?_
   refine Y6 ?_
   refine Yi ?_
   refine ⟨.bool (decide (k = 1)), Yq rfl rfl, ?_, hb0⟩
   first | (simp [kindFor, h103, h105]; done) | (unfold kindFor; repeat (first | rw [if_pos (by omega)] | rw [if_neg (by omega)]))
  ·
   have h106 := of_decide_eq_false h104
   refine Xt ?_
   refine Xb ?_
   refine X4 (q := decide (q = 4)) rfl rfl rfl rfl ?_
   refine Xh (v := .bool (decide (q = 4))) rfl rfl ?_
   refine Xa ?_
   refine Xw rfl (fun h107 => ?_) (fun h107 => ?_)
   ·
    have h108 := of_decide_eq_true h107
    refine Xy ?_
    refine Xv ?_
    refine Zc rfl h107 ?_
    refine Xb ?_
    refine Xc (v := .int .i64 k) rfl rfl ?_
    refine X4 (q := decide (k = 2)) rfl rfl rfl rfl ?_
    refine Xh (v := .bool (decide (k = 2))) rfl rfl ?_
    refine Xa ?_
    refine Xs ?_
    refine Y6 ?_
    refine Yi ?_
    refine ⟨.bool (decide (k = 2)), Yq rfl rfl, ?_, hb0⟩
    first | (simp [kindFor, h103, h106, h108]; done) | (unfold kindFor; repeat (first | rw [if_pos (by omega)] | rw [if_neg (by omega)]))
   ·
    have h109 := of_decide_eq_false h107
    refine X1 ?_
    refine X4 (q := decide (q = 5)) rfl rfl rfl rfl ?_
    refine Xh (v := .bool (decide (q = 5))) rfl rfl ?_
    refine Xa ?_
    refine Xv ?_
    refine Xw rfl (fun h110 => ?_) (fun h110 => ?_)
    ·
     have h111 := of_decide_eq_true h110
     refine Xb ?_
     refine Xc (v := .int .i64 k) rfl rfl ?_
     refine X4 (q := decide (k = 2)) rfl rfl rfl rfl ?_
     refine Xh (v := .bool (decide (k = 2))) rfl rfl ?_
     refine Xa ?_
     refine Xs ?_
     refine Y6 ?_
     refine Yi ?_
     refine ⟨.bool (decide (k = 2)), Yq rfl rfl, ?_, hb0⟩
     first | (simp [kindFor, h103, h106, h109, h111]; done) | (unfold kindFor; repeat (first | rw [if_pos (by omega)] | rw [if_neg (by omega)]))
    ·
     have h112 := of_decide_eq_false h110
     refine Xt ?_
     refine Xb ?_
     refine X4 (q := decide (q = 6)) rfl rfl rfl rfl ?_
     refine Xh (v := .bool (decide (q = 6))) rfl rfl ?_
     refine Xa ?_
     refine Xw rfl (fun h113 => ?_) (fun h113 => ?_)
     ·
      have h114 := of_decide_eq_true h113
      refine Xy ?_
      refine Xv ?_
      refine Zc rfl h113 ?_
      refine Xb ?_
      refine Xc (v := .int .i64 k) rfl rfl ?_
      refine X4 (q := decide (k = 4)) rfl rfl rfl rfl ?_
      refine Xh (v := .bool (decide (k = 4))) rfl rfl ?_
      refine Xa ?_
      refine Xs ?_
      refine Y6 ?_
      refine Yi ?_
      refine ⟨.bool (decide (k = 4)), Yq rfl rfl, ?_, hb0⟩
      first | (simp [kindFor, h103, h106, h109, h112, h114]; done) | (unfold kindFor; repeat (first | rw [if_pos (by omega)] | rw [if_neg (by omega)]))
     ·
      have h115 := of_decide_eq_false h113
      refine X1 ?_
      refine X4 (q := decide (q = 7)) rfl rfl rfl rfl ?_
      refine Xh (v := .bool (decide (q = 7))) rfl rfl ?_
      refine Xa ?_
      refine Xv ?_
      refine Xw rfl (fun h116 => ?_) (fun h116 => ?_)
      ·
       have h117 := of_decide_eq_true h116
       refine Xb ?_
       refine Xc (v := .int .i64 k) rfl rfl ?_
       refine X4 (q := decide (k = 4)) rfl rfl rfl rfl ?_
       refine Xh (v := .bool (decide (k = 4))) rfl rfl ?_
       refine Xa ?_
       refine Xs ?_
       refine Y6 ?_
       refine Yi ?_
       refine ⟨.bool (decide (k = 4)), Yq rfl rfl, ?_, hb0⟩
       first | (simp [kindFor, h103, h106, h109, h112, h115, h117]; done) | (unfold kindFor; repeat (first | rw [if_pos (by omega)] | rw [if_neg (by omega)]))
      ·
       have h118 := of_decide_eq_false h116
       refine Xb ?_
       refine X4 (q := decide (q = 9)) rfl rfl rfl rfl ?_
       refine Xh (v := .bool (decide (q = 9))) rfl rfl ?_
       refine Xa ?_
       refine Xw rfl (fun h119 => ?_) (fun h119 => ?_)
       ·
        have h120 := of_decide_eq_true h119
        refine Xb ?_
        refine Xc (v := .int .i64 k) rfl rfl ?_
        refine X4 (q := decide (k = 5)) rfl rfl rfl rfl ?_
        refine Xh (v := .bool (decide (k = 5))) rfl rfl ?_
        refine Xa ?_
        refine Xs ?_
        refine Y6 ?_
        refine Yi ?_
        refine ⟨.bool (decide (k = 5)), Yq rfl rfl, ?_, hb0⟩
        first | (simp [kindFor, h103, h106, h109, h112, h115, h118, h120]; done) | (unfold kindFor; repeat (first | rw [if_pos (by omega)] | rw [if_neg (by omega)]))
       ·
        have h121 := of_decide_eq_false h119
        refine Xy ?_
        refine Yy ?_
        refine Xv ?_
        refine X2 (fun f' w' => (f' 4 = .bool (((decide (k = 1)) || (decide (k = 2))) || (decide (k = 4)))) ∧ w = w') ?_ ?_
        ·
         refine Xc (v := .int .i64 k) rfl rfl ?_
         refine X4 (q := decide (k = 1)) rfl rfl rfl rfl ?_
         refine Xc (v := .bool (decide (k = 1))) rfl rfl ?_
         rcases Yb (decide (k = 1)) with h122 | h122
         ·
          have h123 := of_decide_eq_true h122
          refine Xk rfl rfl rfl h122 rfl ?_
          refine Xk rfl rfl rfl h122 rfl ?_
          refine Xr (v := .bool true) rfl h122 rfl rfl ?_
          refine Xc (v := .bool true) rfl rfl ?_
          refine Xk rfl rfl rfl rfl rfl ?_
          refine Xk rfl rfl rfl rfl rfl ?_
          refine Xr (v := .bool true) rfl rfl rfl rfl ?_
          refine Xh (v := .bool true) rfl rfl ?_
          exact Xa ⟨(congrArg Value.bool (by first | (simp only [h101, h104, h107, h110, h113, h116, h119, h122, b0, b1, b2, b3, b4, b5, b6, b7, b8, b9]; done) | simp [h101, h104, h107, h110, h113, h116, h119, h122])), rfl⟩
         ·
          have h124 := of_decide_eq_false h122
          refine Xe rfl rfl rfl h122 ?_
          refine Xc (v := .int .i64 k) rfl rfl ?_
          refine Xe rfl rfl rfl h122 ?_
          refine X4 (q := decide (k = 2)) rfl rfl rfl rfl ?_
          refine Xl (v := .bool (decide (k = 2))) rfl h122 rfl rfl ?_
          refine Xc (v := .bool (decide (k = 2))) rfl rfl ?_
          rcases Yb (decide (k = 2)) with h125 | h125
          ·
           have h126 := of_decide_eq_true h125
           refine Xk rfl rfl rfl h125 rfl ?_
           refine Xk rfl rfl rfl h125 rfl ?_
           refine Xr (v := .bool true) rfl h125 rfl rfl ?_
           refine Xh (v := .bool true) rfl rfl ?_
           exact Xa ⟨(congrArg Value.bool (by first | (simp only [h101, h104, h107, h110, h113, h116, h119, h122, h125, b0, b1, b2, b3, b4, b5, b6, b7, b8, b9]; done) | simp [h101, h104, h107, h110, h113, h116, h119, h122, h125])), rfl⟩
          ·
           have h127 := of_decide_eq_false h125
           refine Xe rfl rfl rfl h125 ?_
           refine Xc (v := .int .i64 k) rfl rfl ?_
           refine Xe rfl rfl rfl h125 ?_
           refine X4 (q := decide (k = 4)) rfl rfl rfl rfl ?_
           refine Xl (v := .bool (decide (k = 4))) rfl h125 rfl rfl ?_
           refine Xh (v := .bool (decide (k = 4))) rfl rfl ?_
           exact Xa ⟨(congrArg Value.bool (by first | (simp only [h101, h104, h107, h110, h113, h116, h119, h122, h125, b0, b1, b2, b3, b4, b5, b6, b7, b8, b9]; done) | simp [h101, h104, h107, h110, h113, h116, h119, h122, h125])), rfl⟩
        ·
         rintro f128 w129 ⟨e130, rfl⟩
         refine Xs ?_
         refine ⟨.bool (((decide (k = 1)) || (decide (k = 2))) || (decide (k = 4))), Yq rfl e130, ?_, hb0⟩
         first | (simp [kindFor, h103, h106, h109, h112, h115, h118, h121]; done) | (unfold kindFor; repeat (first | rw [if_pos (by omega)] | rw [if_neg (by omega)]))
theorem P7 (r : Rt) (hr : -9223372036854775807 ≤ r.th) (w : World) (ms : List MTh) (a : Option Addr) (c : Nat) (ht : TabAt w a ms) (hlen : TabLen ms) (hn : ms.length ≤ 1048576) : CallsR Tryd.prog 48 #[.slice a ms.length c, .agg #[.int .i64 r.th, .int .i64 r.ve, .bool r.rd, .bool r.wr, .bool r.wk]] w (fun v w' => v = .bool (live (tabT ms) r) ∧ w.grownBy w' none) := by
 refine X0 (n := 22) Tryd.func48 rfl Tryd.ntmps48 rfl ?_
 have hb0 := World.grownBy.refl w none
 refine Xb ?_
 refine Yu (v := .agg #[.int .i64 r.th, .int .i64 r.ve, .bool r.rd, .bool r.wr, .bool r.wk]) (cs := #[.int .i64 r.th, .int .i64 r.ve, .bool r.rd, .bool r.wr, .bool r.wk]) rfl rfl rfl ?_
 intro B101 w102 hN103
 have hlB101 := Yf hN103 hb0
 have hb104 := low0 hb0 hN103.grw
 refine Xh (v := .bool false) rfl rfl ?_
 refine Xa ?_
 refine Q0 (fun f' w' => (f' 4 = .bool (inR r.th 1 (ms.length : Int) && (decide ((mAt ms ((r.th - 1).toNat)).t.ve = r.ve)))) ∧ w102.grownBy w' none) ?_ ?_
 ·
  rcases Yb (inR r.th 1 (ms.length : Int)) with h124 | h124
  ·
   have hr125 := Zb.1 h124
   obtain ⟨b145, q146, o147, ha148, ho149, hr150⟩ := SlAt.at (TabAt.low ht hb104).1 (Yn (Ya (show (r.th - 1).toNat < ms.length by omega)))
   have hle151 := TabLen.at hlen (Ya (show (r.th - 1).toNat < ms.length by omega))
   refine Ze (m := 15) (vals := [(5, .pointer (some ⟨B101, 0, none⟩)), (6, .int .i64 r.th), (7, .slice a ms.length c), (8, .int .i64 (ms.length : Int)), (9, .bool (inR r.th 1 (ms.length : Int))), (10, .bool (inR r.th 1 (ms.length : Int))), (11, .slice a ms.length c), (12, .pointer (some ⟨B101, 0, none⟩)), (13, .int .i64 r.th), (14, .int .i64 (r.th - 1)), (15, .pointer (some ⟨b145, o147, none⟩)), (16, .pointer (some ⟨b145, o147 + 3, none⟩)), (17, .int .i64 ((mAt ms ((r.th - 1).toNat)).t.ve)), (18, .pointer (some ⟨B101, 1, none⟩)), (19, .int .i64 r.ve)]) (fun w' => w102.grownBy w' none) Zi (by kernel_rfl) (Yl _) ?_ ?_
   ·
    refine Xj rfl (fun w157 hi158 => ?_) ?_
    ·
     have hb159 := low0 hb104 hi158
     refine Xd (o' := 0) Yp rfl rfl rfl ?_
     exact Xa ⟨rfl, hi158⟩
    refine Xj rfl (fun w160 hi161 => ?_) ?_
    ·
     have hb162 := low0 hb104 hi161
     have k163 := (hN103.blk.grown0 hi161)
     refine Xi (v := .int .i64 r.th) X3 rfl (k163.cell rfl) rfl ?_
     exact Xa ⟨rfl, hi161⟩
    refine Xj rfl (fun w164 hi165 => ?_) ?_
    ·
     have hb166 := low0 hb104 hi165
     refine Xc (v := .slice a ms.length c) rfl rfl ?_
     exact Xa ⟨rfl, hi165⟩
    refine Xj rfl (fun w167 hi168 => ?_) ?_
    ·
     have hb169 := low0 hb104 hi168
     refine Ym (by kernel_rfl) rfl rfl ?_
     exact Xa ⟨rfl, hi168⟩
    refine Xj rfl (fun w170 hi171 => ?_) ?_
    ·
     have hb172 := low0 hb104 hi171
     refine Xn (vs := [.int .i64 r.th, .int .i64 1, .int .i64 (ms.length : Int)]) Q4 (Xg rfl (Xg rfl (Xg rfl Xm))) rfl (Qk r.th 1 (ms.length : Int) _) ?_
     rintro _ w173 ⟨rfl, hg174⟩
     have hb175 := low0 hb172 hg174
     exact Xa ⟨rfl, (grown_trans hi171 hg174)⟩
    refine Xj rfl (fun w176 hi177 => ?_) ?_
    ·
     have hb178 := low0 hb104 hi177
     refine Xc (v := .bool (inR r.th 1 (ms.length : Int))) rfl rfl ?_
     exact Xa ⟨rfl, hi177⟩
    refine Xj rfl (fun w179 hi180 => ?_) ?_
    ·
     have hb181 := low0 hb104 hi180
     refine Xe rfl rfl rfl h124 ?_
     refine Xc (v := .slice a ms.length c) rfl rfl ?_
     exact Xa ⟨rfl, hi180⟩
    refine Xj rfl (fun w182 hi183 => ?_) ?_
    ·
     have hb184 := low0 hb104 hi183
     refine Xe rfl rfl rfl h124 ?_
     refine Xd (o' := 0) Yp rfl rfl rfl ?_
     exact Xa ⟨rfl, hi183⟩
    refine Xj rfl (fun w185 hi186 => ?_) ?_
    ·
     have hb187 := low0 hb104 hi186
     refine Xe rfl rfl rfl h124 ?_
     have k188 := (hN103.blk.grown0 hi186)
     refine Xi (v := .int .i64 r.th) X3 rfl (k188.cell rfl) rfl ?_
     exact Xa ⟨rfl, hi186⟩
    refine Xj rfl (fun w189 hi190 => ?_) ?_
    ·
     have hb191 := low0 hb104 hi190
     refine Xe rfl rfl rfl h124 ?_
     refine Y3 (c := r.th - 1) rfl rfl (by omega) (by omega) (by omega) rfl ?_
     exact Xa ⟨rfl, hi190⟩
    refine Xj rfl (fun w192 hi193 => ?_) ?_
    ·
     have hb194 := low0 hb104 hi193
     refine Xe rfl rfl rfl h124 ?_
     refine Yd Zl rfl rfl ha148 ho149 (by omega) (by omega) rfl ?_
     exact Xa ⟨rfl, hi193⟩
    refine Xj rfl (fun w195 hi196 => ?_) ?_
    ·
     have hb197 := low0 hb104 hi196
     refine Xe rfl rfl rfl h124 ?_
     refine Xd (o' := o147 + 3) Z6 rfl rfl rfl ?_
     exact Xa ⟨rfl, hi196⟩
    refine Xj rfl (fun w198 hi199 => ?_) ?_
    ·
     have hb200 := low0 hb104 hi199
     refine Xe rfl rfl rfl h124 ?_
     refine Xi (v := .int .i64 ((mAt ms ((r.th - 1).toNat)).t.ve)) X3 rfl ((Yo hr150 hi199) 3 _ rfl) rfl ?_
     exact Xa ⟨rfl, hi199⟩
    refine Xj rfl (fun w201 hi202 => ?_) ?_
    ·
     have hb203 := low0 hb104 hi202
     refine Xe rfl rfl rfl h124 ?_
     refine Xd (o' := 1) Ql rfl rfl rfl ?_
     exact Xa ⟨rfl, hi202⟩
    refine Xj rfl (fun w204 hi205 => ?_) ?_
    ·
     have hb206 := low0 hb104 hi205
     refine Xe rfl rfl rfl h124 ?_
     have k207 := (hN103.blk.grown0 hi205)
     refine Xi (v := .int .i64 r.ve) X3 rfl (k207.cell rfl) rfl ?_
     exact Xa ⟨rfl, hi205⟩
    exact Zj
   ·
    intro w208 hi209
    have hb210 := low0 hb104 hi209
    refine Xe rfl rfl rfl h124 ?_
    refine X4 (q := decide ((mAt ms ((r.th - 1).toNat)).t.ve = r.ve)) rfl rfl rfl rfl ?_
    refine Xr (v := .bool (decide ((mAt ms ((r.th - 1).toNat)).t.ve = r.ve))) rfl h124 rfl rfl ?_
    refine Xh (v := .bool (decide ((mAt ms ((r.th - 1).toNat)).t.ve = r.ve))) rfl rfl ?_
    exact Xa (Xv ⟨(congrArg Value.bool (by first | (simp only [h124, b0, b1, b2, b3, b4, b5, b6, b7, b8, b9]; done) | simp [h124])), hi209⟩)
  ·
   refine Ze (m := 15) (vals := [(5, .pointer (some ⟨B101, 0, none⟩)), (6, .int .i64 r.th), (7, .slice a ms.length c), (8, .int .i64 (ms.length : Int)), (9, .bool (inR r.th 1 (ms.length : Int))), (10, .bool (inR r.th 1 (ms.length : Int))), (11, undef), (12, undef), (13, undef), (14, undef), (15, undef), (16, undef), (17, undef), (18, undef), (19, undef)]) (fun w' => w102.grownBy w' none) Zi (by kernel_rfl) (Yl _) ?_ ?_
   ·
    refine Xj rfl (fun w220 hi221 => ?_) ?_
    ·
     have hb222 := low0 hb104 hi221
     refine Xd (o' := 0) Yp rfl rfl rfl ?_
     exact Xa ⟨rfl, hi221⟩
    refine Xj rfl (fun w223 hi224 => ?_) ?_
    ·
     have hb225 := low0 hb104 hi224
     have k226 := (hN103.blk.grown0 hi224)
     refine Xi (v := .int .i64 r.th) X3 rfl (k226.cell rfl) rfl ?_
     exact Xa ⟨rfl, hi224⟩
    refine Xj rfl (fun w227 hi228 => ?_) ?_
    ·
     have hb229 := low0 hb104 hi228
     refine Xc (v := .slice a ms.length c) rfl rfl ?_
     exact Xa ⟨rfl, hi228⟩
    refine Xj rfl (fun w230 hi231 => ?_) ?_
    ·
     have hb232 := low0 hb104 hi231
     refine Ym (by kernel_rfl) rfl rfl ?_
     exact Xa ⟨rfl, hi231⟩
    refine Xj rfl (fun w233 hi234 => ?_) ?_
    ·
     have hb235 := low0 hb104 hi234
     refine Xn (vs := [.int .i64 r.th, .int .i64 1, .int .i64 (ms.length : Int)]) Q4 (Xg rfl (Xg rfl (Xg rfl Xm))) rfl (Qk r.th 1 (ms.length : Int) _) ?_
     rintro _ w236 ⟨rfl, hg237⟩
     have hb238 := low0 hb235 hg237
     exact Xa ⟨rfl, (grown_trans hi234 hg237)⟩
    refine Xj rfl (fun w239 hi240 => ?_) ?_
    ·
     have hb241 := low0 hb104 hi240
     refine Xc (v := .bool (inR r.th 1 (ms.length : Int))) rfl rfl ?_
     exact Xa ⟨rfl, hi240⟩
    refine Xj rfl (fun w242 hi243 => ?_) ?_
    ·
     have hb244 := low0 hb104 hi243
     refine Xk rfl rfl rfl h124 rfl ?_
     exact Xa ⟨rfl, hi243⟩
    refine Xj rfl (fun w245 hi246 => ?_) ?_
    ·
     have hb247 := low0 hb104 hi246
     refine Xk rfl rfl rfl h124 rfl ?_
     exact Xa ⟨rfl, hi246⟩
    refine Xj rfl (fun w248 hi249 => ?_) ?_
    ·
     have hb250 := low0 hb104 hi249
     refine Xk rfl rfl rfl h124 rfl ?_
     exact Xa ⟨rfl, hi249⟩
    refine Xj rfl (fun w251 hi252 => ?_) ?_
    ·
     have hb253 := low0 hb104 hi252
     refine Xk rfl rfl rfl h124 rfl ?_
     exact Xa ⟨rfl, hi252⟩
    refine Xj rfl (fun w254 hi255 => ?_) ?_
    ·
     have hb256 := low0 hb104 hi255
     refine Xk rfl rfl rfl h124 rfl ?_
     exact Xa ⟨rfl, hi255⟩
    refine Xj rfl (fun w257 hi258 => ?_) ?_
    ·
     have hb259 := low0 hb104 hi258
     refine Xk rfl rfl rfl h124 rfl ?_
     exact Xa ⟨rfl, hi258⟩
    refine Xj rfl (fun w260 hi261 => ?_) ?_
    ·
     have hb262 := low0 hb104 hi261
     refine Xk rfl rfl rfl h124 rfl ?_
     exact Xa ⟨rfl, hi261⟩
    refine Xj rfl (fun w263 hi264 => ?_) ?_
    ·
     have hb265 := low0 hb104 hi264
     refine Xk rfl rfl rfl h124 rfl ?_
     exact Xa ⟨rfl, hi264⟩
    refine Xj rfl (fun w266 hi267 => ?_) ?_
    ·
     have hb268 := low0 hb104 hi267
     refine Xk rfl rfl rfl h124 rfl ?_
     exact Xa ⟨rfl, hi267⟩
    exact Zj
   ·
    intro w269 hi270
    have hb271 := low0 hb104 hi270
    refine Xk rfl rfl rfl h124 rfl ?_
    refine Xl (v := .bool false) rfl h124 rfl rfl ?_
    refine Xh (v := .bool false) rfl rfl ?_
    exact Xa (Xv ⟨(congrArg Value.bool (by first | (simp only [h124, b0, b1, b2, b3, b4, b5, b6, b7, b8, b9]; done) | simp [h124])), hi270⟩)
 ·
  rintro f272 w273 ⟨e274, hg275⟩
  have hb276 := low0 hb104 hg275
  refine Xs ?_
  refine ⟨.bool (inR r.th 1 (ms.length : Int) && (decide ((mAt ms ((r.th - 1).toNat)).t.ve = r.ve))), Yq rfl e274, ?_, hb276⟩
  exact congrArg Value.bool Pk
theorem Re (p : Int) (hp : 0 ≤ p ∧ p ≤ 999999990000) (lo R : Nat) (bs : List Int) (a : Option Addr) (c : Nat) (w : World) (hR : Blk w R 108 #[.slice a bs.length c, .int .i64 p]) (hlo : lo ≤ R) (hs : SlLt lo w a 1 (bs.map bcell)) (hb : ∀ b ∈ bs, 0 ≤ b ∧ b ≤ 255) (hn : bs.length ≤ 1048576) (ms : List MTh) (ta : Option Addr) (tc tlo : Nat) (hG : TabG tlo w ta ms) (hRl : R < tlo) (hlen : TabLen ms) (hmn : 1 ≤ ms.length ∧ ms.length ≤ 8) : CallsR Tryd.prog 64 #[.pointer (some ⟨R, 0, none⟩), .slice ta ms.length tc] w (fun v w' => ∃ (k : Int) (p' : Int), v = .int .i64 k ∧ (1 ≤ k ∧ k ≤ (ms.length : Int)) ∧ p ≤ p' ∧ p' ≤ p + 20 ∧ Blk w' R 108 #[.slice a bs.length c, .int .i64 p'] ∧ w.grownBy w' (some R)) := by
 refine X0 (n := 34) Tryd.func64 rfl Tryd.ntmps64 rfl ?_
 have hb0 := World.grownBy.refl w (some R)
 have hRlt := hR.lt
 obtain ⟨hi, hhi⟩ : ∃ n, n = w.heap.size := ⟨_, rfl⟩
 have hTH := TabG.hi hG
 rw [← hhi] at hTH
 refine Xb ?_
 refine Xh (v := .int .i64 0) rfl rfl ?_
 refine Xa ?_
 refine Xt ?_
 refine Xb ?_
 refine Xh (v := .int .i64 0) rfl rfl ?_
 refine Xa ?_
 refine Ye ?_
 refine Zd (fun mm f' w' => ∃ (i : Nat) (p1 : Int), mm = 6 - i ∧ i ≤ 6 ∧ (p ≤ p1 ∧ p1 ≤ p + 2 * (i : Int)) ∧ TabG tlo w' ta ms ∧ hi ≤ w'.heap.size ∧ f' 5 = .int .i64 (i : Int) ∧ f' 0 = .pointer (some ⟨R, 0, none⟩) ∧ f' 1 = .slice ta ms.length tc ∧ w.grownBy w' (some R) ∧ Blk w' R 108 #[.slice a bs.length c, .int .i64 p1]) (6 - 0) ⟨0, p, rfl, (Nat.zero_le _), (by omega), hG, (Nat.le_of_eq hhi), rfl, rfl, rfl, hb0, hR⟩ ?_
 rintro mm f101 w102 ⟨i, p1, hm104, hi6, hpp, hGl, hhs, e105, e106, e107, hb103, k108⟩
 refine Xt ?_
 refine Xb ?_
 refine Xc (v := .int .i64 (i : Int)) e105 rfl ?_
 refine Y4 (q := decide ((i : Int) < 6)) rfl rfl rfl rfl ?_
 refine Xc (v := .bool (decide ((i : Int) < 6))) rfl rfl ?_
 rcases Yb (decide ((i : Int) < 6)) with h116 | h116
 ·
  have h117 := of_decide_eq_true h116
  refine Xe rfl rfl rfl h116 ?_
  refine Xc (v := .pointer (some ⟨R, 0, none⟩)) e106 rfl ?_
  refine Xe rfl rfl rfl h116 ?_
  refine Xn (vs := [.pointer (some ⟨R, 0, none⟩), .int .i64 24]) Y1 (Xg rfl (Xg rfl Xm)) rfl (Yr p1 24 (by omega) _ R bs _ _ _ k108 (by omega) (SlLt.low1 hs hb103 hlo) (by first | exact hb | exact fun b h => hb b (List.mem_of_mem_take h)) (by first | omega | (rw [List.length_take]; omega))) ?_
  rintro _ w123 ⟨k118, rfl, hk119, hk120, kR121, hg122⟩
  have hb124 := grown_trans hb103 hg122
  refine Xe rfl rfl rfl h116 ?_
  refine Zq (q := decide (0 < k118)) rfl rfl rfl rfl ?_
  refine Xr (v := .bool (decide (0 < k118))) rfl h116 rfl rfl ?_
  refine Xa ?_
  refine Xw rfl (fun h125 => ?_) (fun h125 => ?_)
  ·
   have h126 := of_decide_eq_true h125
   refine Xy ?_
   refine Xv ?_
   refine Xt ?_
   refine Ye ?_
   refine Xb ?_
   refine Xc (v := .pointer (some ⟨R, 0, none⟩)) e106 rfl ?_
   refine Xc (v := .slice ta ms.length tc) e107 rfl ?_
   refine Ym (by kernel_rfl) rfl rfl ?_
   refine Xn (vs := [.pointer (some ⟨R, 0, none⟩), .int .i64 (ms.length : Int)]) Y1 (Xg rfl (Xg rfl Xm)) rfl (Yr (p1 + 1) (ms.length : Int) (by omega) _ R bs _ _ _ kR121 (by omega) (SlLt.low1 hs hb124 hlo) (by first | exact hb | exact fun b h => hb b (List.mem_of_mem_take h)) (by first | omega | (rw [List.length_take]; omega))) ?_
   rintro _ w132 ⟨k127, rfl, hk128, hk129, kR130, hg131⟩
   have hb133 := grown_trans hb124 hg131
   refine Yx (c := 1 + k127) rfl rfl (by omega) (by omega) (by omega) rfl ?_
   refine Xh (v := .int .i64 (1 + k127)) rfl rfl ?_
   refine Xa ?_
   refine Xb ?_
   refine Xc (v := .slice ta ms.length tc) e107 rfl ?_
   refine Xc (v := .int .i64 (1 + k127)) rfl rfl ?_
   refine Y3 (c := (1 + k127) - 1) rfl rfl (by omega) (by omega) (by omega) rfl ?_
   have hTG142 := (TabG.lt (TabG.lt hGl hg122 (by omega)) hg131 (by omega))
   obtain ⟨b136, q137, o138, ha139, ho140, hr141⟩ := SlAt.at (TabG.at hTG142).1 (Yn (Ya (show ((1 + k127) - 1).toNat < ms.length by omega)))
   have hle143 := TabLen.at hlen (Ya (show ((1 + k127) - 1).toNat < ms.length by omega))
   refine Yd Zl rfl rfl ha139 ho140 (by omega) (by omega) rfl ?_
   refine Xd (o' := o138) Yt rfl rfl rfl ?_
   refine Xi (v := .int .i64 ((mAt ms (((1 + k127) - 1).toNat)).t.kind)) X3 rfl (hr141 0 _ rfl) rfl ?_
   refine X4 (q := decide ((mAt ms (((1 + k127) - 1).toNat)).t.kind = 3)) rfl rfl rfl rfl ?_
   refine Xa ?_
   refine Xw rfl (fun h144 => ?_) (fun h144 => ?_)
   ·
    have h145 := of_decide_eq_true h144
    refine Xb ?_
    refine Xc (v := .int .i64 (1 + k127)) rfl rfl ?_
    refine Xh (v := .int .i64 (1 + k127)) rfl rfl ?_
    refine Xa ?_
    refine Xs ?_
    refine Y6 ?_
    refine Yi ?_
    refine Yi ?_
    refine Y6 ?_
    refine Yi ?_
    refine ⟨.int .i64 (1 + k127), Yq rfl rfl, (1 + k127), (p1 + 1 + 1), rfl, by omega, by omega, by omega, kR130, hb133⟩
   ·
    have h146 := of_decide_eq_false h144
    refine Xy ?_
    refine Yy ?_
    refine Xv ?_
    refine X1 ?_
    refine Xc (v := .int .i64 (i : Int)) e105 rfl ?_
    refine Yx (c := (i : Int) + 1) rfl rfl (by omega) (by omega) (by omega) rfl ?_
    refine Xh (v := .int .i64 ((i : Int) + 1)) rfl rfl ?_
    refine Xa ?_
    refine Xv ?_
    exact ⟨6 - (i + 1), by omega, (i + 1), (p1 + 1 + 1), rfl, (by omega), (by omega), hTG142, (Nat.le_trans (Nat.le_trans hhs hg122.size) hg131.size), rfl, e106, e107, hb133, kR130⟩
  ·
   have h147 := of_decide_eq_false h125
   refine Y5 ?_
   refine Y2 ?_
   refine Y2 ?_
   refine Z1 ?_
   refine Xv ?_
   refine Xb ?_
   refine Xc (v := .pointer (some ⟨R, 0, none⟩)) e106 rfl ?_
   refine Xc (v := .slice ta ms.length tc) e107 rfl ?_
   refine Ym (by kernel_rfl) rfl rfl ?_
   refine Xn (vs := [.pointer (some ⟨R, 0, none⟩), .int .i64 (ms.length : Int)]) Y1 (Xg rfl (Xg rfl Xm)) rfl (Yr (p1 + 1) (ms.length : Int) (by omega) _ R bs _ _ _ kR121 (by omega) (SlLt.low1 hs hb124 hlo) (by first | exact hb | exact fun b h => hb b (List.mem_of_mem_take h)) (by first | omega | (rw [List.length_take]; omega))) ?_
   rintro _ w153 ⟨k148, rfl, hk149, hk150, kR151, hg152⟩
   have hb154 := grown_trans hb124 hg152
   refine Yx (c := 1 + k148) rfl rfl (by omega) (by omega) (by omega) rfl ?_
   refine Xh (v := .int .i64 (1 + k148)) rfl rfl ?_
   refine Xa ?_
   refine Xs ?_
   refine ⟨.int .i64 (1 + k148), Yq rfl rfl, (1 + k148), (p1 + 1 + 1), rfl, by omega, by omega, by omega, kR151, hb154⟩
 ·
  have h155 := of_decide_eq_false h116
  iterate 3 refine Xk rfl rfl rfl h116 rfl ?_
  refine Xl (v := .bool false) rfl h116 rfl rfl ?_
  refine Xa ?_
  refine Zr rfl rfl ?_
  refine Y5 ?_
  refine Y2 ?_
  refine Y2 ?_
  refine Z1 ?_
  refine Xv ?_
  refine Xb ?_
  refine Xc (v := .pointer (some ⟨R, 0, none⟩)) e106 rfl ?_
  refine Xc (v := .slice ta ms.length tc) e107 rfl ?_
  refine Ym (by kernel_rfl) rfl rfl ?_
  refine Xn (vs := [.pointer (some ⟨R, 0, none⟩), .int .i64 (ms.length : Int)]) Y1 (Xg rfl (Xg rfl Xm)) rfl (Yr p1 (ms.length : Int) (by omega) _ R bs _ _ _ k108 (by omega) (SlLt.low1 hs hb103 hlo) (by first | exact hb | exact fun b h => hb b (List.mem_of_mem_take h)) (by first | omega | (rw [List.length_take]; omega))) ?_
  rintro _ w161 ⟨k156, rfl, hk157, hk158, kR159, hg160⟩
  have hb162 := grown_trans hb103 hg160
  refine Yx (c := 1 + k156) rfl rfl (by omega) (by omega) (by omega) rfl ?_
  refine Xh (v := .int .i64 (1 + k156)) rfl rfl ?_
  refine Xa ?_
  refine Xs ?_
  refine ⟨.int .i64 (1 + k156), Yq rfl rfl, (1 + k156), (p1 + 1), rfl, by omega, by omega, by omega, kR159, hb162⟩
end Go.Proofs.YtfoplmgoiblkgaaDoor
end
