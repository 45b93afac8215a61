/- Laws and walks: my templates, and what a program of mine (gen.py) printed out of the functions; only what the row reaches. -/
import Derived.Test.YtfoplmgoiblkgaaDoorCR4
section
namespace Go.Proofs.YtfoplmgoiblkgaaDoor
open Go.RowKit Go.Dw
set_option maxRecDepth 100000
set_option maxHeartbeats 4000000
set_option linter.unusedSimpArgs false
set_option linter.unusedVariables false
theorem K3 (run thing : Int) (hr : -9223372036854775807 ≤ run) (w : World) (ms : List MTh) (a : Option Addr) (c : Nat) (ht : TabAt w a ms) (hlen : TabLen ms) (hn : ms.length ≤ 1048576) : CallsR Tryd.prog 16 #[.slice a ms.length c, .int .i64 run, .int .i64 thing] w (fun v w' => v = .bool (chkSees (tabT ms) run thing) ∧ w.grownBy w' none) := by
 refine X0 (n := 25) Tryd.func16 rfl Tryd.ntmps16 rfl ?_
 have hb0 := World.grownBy.refl w none
 refine Xb ?_
 refine Xh (v := .bool false) rfl rfl ?_
 refine Xa ?_
 refine X2 (fun f' w' => (f' 6 = .bool (((tableOk (tabT ms) && kindAt (tabT ms) run 3) && inR thing 1 (ms.length : Int)) && sees (tabT ms) run thing)) ∧ w.grownBy w' none) ?_ ?_
 ·
  refine Xc (v := .slice a ms.length c) rfl rfl ?_
  refine Xn (vs := [.slice a ms.length c]) Ll (Xg rfl Xm) rfl (K5  _ ms _ _ (TabAt.low ht hb0) hlen (by omega)) ?_
  rintro _ w116 ⟨rfl, hg117⟩
  have hb118 := low0 hb0 hg117
  refine Xc (v := .bool (tableOk (tabT ms))) rfl rfl ?_
  rcases Yb (tableOk (tabT ms)) with h119 | h119
  ·
   refine Xe rfl rfl rfl h119 ?_
   refine Xc (v := .slice a ms.length c) rfl rfl ?_
   refine Xe rfl rfl rfl h119 ?_
   refine Xc (v := .int .i64 run) rfl rfl ?_
   refine Xe rfl rfl rfl h119 ?_
   refine Xn (vs := [.slice a ms.length c, .int .i64 run, .int .i64 3]) Ls (Xg rfl (Xg rfl (Xg rfl Xm))) rfl (Vp run 3 (by omega) _ ms _ _ (TabAt.low ht hb118) hlen (by omega)) ?_
   rintro _ w120 ⟨rfl, hg121⟩
   have hb122 := low0 hb118 hg121
   refine Xr (v := .bool (kindAt (tabT ms) run 3)) rfl h119 rfl rfl ?_
   refine Xc (v := .bool (kindAt (tabT ms) run 3)) rfl rfl ?_
   rcases Yb (kindAt (tabT ms) run 3) with h123 | h123
   ·
    have hkp124 := (Z5 h123).1
    refine Xe rfl rfl rfl h123 ?_
    refine Xc (v := .slice a ms.length c) rfl rfl ?_
    refine Xe rfl rfl rfl h123 ?_
    refine Xc (v := .int .i64 thing) rfl rfl ?_
    refine Xe rfl rfl rfl h123 ?_
    refine Xn (vs := [.slice a ms.length c, .int .i64 thing]) Ux (Xg rfl (Xg rfl Xm)) rfl (Qi thing _ _ _ _) ?_
    rintro _ w125 ⟨rfl, hg126⟩
    have hb127 := low0 hb122 hg126
    refine Xr (v := .bool (inR thing 1 (ms.length : Int))) rfl h123 rfl rfl ?_
    refine Xc (v := .bool (inR thing 1 (ms.length : Int))) rfl rfl ?_
    rcases Yb (inR thing 1 (ms.length : Int)) with h128 | h128
    ·
     have hr129 := Zb.1 h128
     refine Xe rfl rfl rfl h128 ?_
     refine Xc (v := .slice a ms.length c) rfl rfl ?_
     refine Xe rfl rfl rfl h128 ?_
     refine Xc (v := .int .i64 run) rfl rfl ?_
     refine Xe rfl rfl rfl h128 ?_
     refine Xc (v := .int .i64 thing) rfl rfl ?_
     refine Xe rfl rfl rfl h128 ?_
     refine Xn (vs := [.slice a ms.length c, .int .i64 run, .int .i64 thing]) Sz (Xg rfl (Xg rfl (Xg rfl Xm))) rfl (Vz run thing _ ms _ _ (TabAt.low ht hb127) hlen (by omega) h119 (by omega) (by omega)) ?_
     rintro _ w130 ⟨rfl, hg131⟩
     have hb132 := low0 hb127 hg131
     refine Xr (v := .bool (sees (tabT ms) run thing)) rfl h128 rfl rfl ?_
     refine Xh (v := .bool (sees (tabT ms) run thing)) rfl rfl ?_
     exact Xa ⟨(congrArg Value.bool (by first | (simp only [h119, h123, h128, b0, b1, b2, b3, b4, b5, b6, b7, b8, b9]; done) | simp [h119, h123, h128])), (grown_trans (grown_trans (grown_trans hg117 hg121) hg126) hg131)⟩
    ·
     iterate 4 refine Xk rfl rfl rfl h128 rfl ?_
     refine Xl (v := .bool false) rfl h128 rfl rfl ?_
     refine Xh (v := .bool false) rfl rfl ?_
     exact Xa ⟨(congrArg Value.bool (by first | (simp only [h119, h123, h128, b0, b1, b2, b3, b4, b5, b6, b7, b8, b9]; done) | simp [h119, h123, h128])), (grown_trans (grown_trans hg117 hg121) hg126)⟩
   ·
    iterate 3 refine Xk rfl rfl rfl h123 rfl ?_
    refine Xl (v := .bool false) rfl h123 rfl rfl ?_
    refine Xc (v := .bool false) rfl rfl ?_
    iterate 4 refine Xk rfl rfl rfl rfl rfl ?_
    refine Xl (v := .bool false) rfl rfl rfl rfl ?_
    refine Xh (v := .bool false) rfl rfl ?_
    exact Xa ⟨(congrArg Value.bool (by first | (simp only [h119, h123, b0, b1, b2, b3, b4, b5, b6, b7, b8, b9]; done) | simp [h119, h123])), (grown_trans hg117 hg121)⟩
  ·
   iterate 3 refine Xk rfl rfl rfl h119 rfl ?_
   refine Xl (v := .bool false) rfl h119 rfl rfl ?_
   refine Xc (v := .bool false) rfl rfl ?_
   iterate 3 refine Xk rfl rfl rfl rfl rfl ?_
   refine Xl (v := .bool false) rfl rfl rfl rfl ?_
   refine Xc (v := .bool false) rfl rfl ?_
   iterate 4 refine Xk rfl rfl rfl rfl rfl ?_
   refine Xl (v := .bool false) rfl rfl rfl rfl ?_
   refine Xh (v := .bool false) rfl rfl ?_
   exact Xa ⟨(congrArg Value.bool (by first | (simp only [h119, b0, b1, b2, b3, b4, b5, b6, b7, b8, b9]; done) | simp [h119])), hg117⟩
 ·
  rintro f133 w134 ⟨e135, hg136⟩
  have hb137 := low0 hb0 hg136
  refine Xs ?_
  refine ⟨.bool (((tableOk (tabT ms) && kindAt (tabT ms) run 3) && inR thing 1 (ms.length : Int)) && sees (tabT ms) run thing), Yq rfl e135, ?_, hb137⟩
  unfold chkSees; rw [Zz]
theorem Ja (run thing : Int) (hr : -9223372036854775807 ≤ run) (w : World) (ms : List MTh) (a : Option Addr) (c : Nat) (ht : TabAt w a ms) (hlen : TabLen ms) (hn : ms.length ≤ 1048576) : CallsR Tryd.prog 17 #[.slice a ms.length c, .int .i64 run, .int .i64 thing] w (fun v w' => v = .bool (chkTouches (tabT ms) run thing) ∧ w.grownBy w' none) := by
 refine X0 (n := 25) Tryd.func17 rfl Tryd.ntmps17 rfl ?_
 have hb0 := World.grownBy.refl w none
 refine Xb ?_
 refine Xh (v := .bool false) rfl rfl ?_
 refine Xa ?_
 refine X2 (fun f' w' => (f' 6 = .bool (((tableOk (tabT ms) && kindAt (tabT ms) run 3) && inR thing 1 (ms.length : Int)) && touches (tabT ms) run thing)) ∧ w.grownBy w' none) ?_ ?_
 ·
  refine Xc (v := .slice a ms.length c) rfl rfl ?_
  refine Xn (vs := [.slice a ms.length c]) Ll (Xg rfl Xm) rfl (K5  _ ms _ _ (TabAt.low ht hb0) hlen (by omega)) ?_
  rintro _ w116 ⟨rfl, hg117⟩
  have hb118 := low0 hb0 hg117
  refine Xc (v := .bool (tableOk (tabT ms))) rfl rfl ?_
  rcases Yb (tableOk (tabT ms)) with h119 | h119
  ·
   refine Xe rfl rfl rfl h119 ?_
   refine Xc (v := .slice a ms.length c) rfl rfl ?_
   refine Xe rfl rfl rfl h119 ?_
   refine Xc (v := .int .i64 run) rfl rfl ?_
   refine Xe rfl rfl rfl h119 ?_
   refine Xn (vs := [.slice a ms.length c, .int .i64 run, .int .i64 3]) Ls (Xg rfl (Xg rfl (Xg rfl Xm))) rfl (Vp run 3 (by omega) _ ms _ _ (TabAt.low ht hb118) hlen (by omega)) ?_
   rintro _ w120 ⟨rfl, hg121⟩
   have hb122 := low0 hb118 hg121
   refine Xr (v := .bool (kindAt (tabT ms) run 3)) rfl h119 rfl rfl ?_
   refine Xc (v := .bool (kindAt (tabT ms) run 3)) rfl rfl ?_
   rcases Yb (kindAt (tabT ms) run 3) with h123 | h123
   ·
    have hkp124 := (Z5 h123).1
    refine Xe rfl rfl rfl h123 ?_
    refine Xc (v := .slice a ms.length c) rfl rfl ?_
    refine Xe rfl rfl rfl h123 ?_
    refine Xc (v := .int .i64 thing) rfl rfl ?_
    refine Xe rfl rfl rfl h123 ?_
    refine Xn (vs := [.slice a ms.length c, .int .i64 thing]) Ux (Xg rfl (Xg rfl Xm)) rfl (Qi thing _ _ _ _) ?_
    rintro _ w125 ⟨rfl, hg126⟩
    have hb127 := low0 hb122 hg126
    refine Xr (v := .bool (inR thing 1 (ms.length : Int))) rfl h123 rfl rfl ?_
    refine Xc (v := .bool (inR thing 1 (ms.length : Int))) rfl rfl ?_
    rcases Yb (inR thing 1 (ms.length : Int)) with h128 | h128
    ·
     have hr129 := Zb.1 h128
     refine Xe rfl rfl rfl h128 ?_
     refine Xc (v := .slice a ms.length c) rfl rfl ?_
     refine Xe rfl rfl rfl h128 ?_
     refine Xc (v := .int .i64 run) rfl rfl ?_
     refine Xe rfl rfl rfl h128 ?_
     refine Xc (v := .int .i64 thing) rfl rfl ?_
     refine Xe rfl rfl rfl h128 ?_
     refine Xn (vs := [.slice a ms.length c, .int .i64 run, .int .i64 thing]) Ri (Xg rfl (Xg rfl (Xg rfl Xm))) rfl (J1 run thing _ ms _ _ (TabAt.low ht hb127) hlen (by omega) h119 (by omega) (by omega)) ?_
     rintro _ w130 ⟨rfl, hg131⟩
     have hb132 := low0 hb127 hg131
     refine Xr (v := .bool (touches (tabT ms) run thing)) rfl h128 rfl rfl ?_
     refine Xh (v := .bool (touches (tabT ms) run thing)) rfl rfl ?_
     exact Xa ⟨(congrArg Value.bool (by first | (simp only [h119, h123, h128, b0, b1, b2, b3, b4, b5, b6, b7, b8, b9]; done) | simp [h119, h123, h128])), (grown_trans (grown_trans (grown_trans hg117 hg121) hg126) hg131)⟩
    ·
     iterate 4 refine Xk rfl rfl rfl h128 rfl ?_
     refine Xl (v := .bool false) rfl h128 rfl rfl ?_
     refine Xh (v := .bool false) rfl rfl ?_
     exact Xa ⟨(congrArg Value.bool (by first | (simp only [h119, h123, h128, b0, b1, b2, b3, b4, b5, b6, b7, b8, b9]; done) | simp [h119, h123, h128])), (grown_trans (grown_trans hg117 hg121) hg126)⟩
   ·
    iterate 3 refine Xk rfl rfl rfl h123 rfl ?_
    refine Xl (v := .bool false) rfl h123 rfl rfl ?_
    refine Xc (v := .bool false) rfl rfl ?_
    iterate 4 refine Xk rfl rfl rfl rfl rfl ?_
    refine Xl (v := .bool false) rfl rfl rfl rfl ?_
    refine Xh (v := .bool false) rfl rfl ?_
    exact Xa ⟨(congrArg Value.bool (by first | (simp only [h119, h123, b0, b1, b2, b3, b4, b5, b6, b7, b8, b9]; done) | simp [h119, h123])), (grown_trans hg117 hg121)⟩
  ·
   iterate 3 refine Xk rfl rfl rfl h119 rfl ?_
   refine Xl (v := .bool false) rfl h119 rfl rfl ?_
   refine Xc (v := .bool false) rfl rfl ?_
   iterate 3 refine Xk rfl rfl rfl rfl rfl ?_
   refine Xl (v := .bool false) rfl rfl rfl rfl ?_
   refine Xc (v := .bool false) rfl rfl ?_
   iterate 4 refine Xk rfl rfl rfl rfl rfl ?_
   refine Xl (v := .bool false) rfl rfl rfl rfl ?_
   refine Xh (v := .bool false) rfl rfl ?_
   exact Xa ⟨(congrArg Value.bool (by first | (simp only [h119, b0, b1, b2, b3, b4, b5, b6, b7, b8, b9]; done) | simp [h119])), hg117⟩
 ·
  rintro f133 w134 ⟨e135, hg136⟩
  have hb137 := low0 hb0 hg136
  refine Xs ?_
  refine ⟨.bool (((tableOk (tabT ms) && kindAt (tabT ms) run 3) && inR thing 1 (ms.length : Int)) && touches (tabT ms) run thing), Yq rfl e135, ?_, hb137⟩
  unfold chkTouches; rw [Zz]
theorem Gl (r : Rt) (w : World) (ms : List MTh) (a : Option Addr) (c : Nat) (ht : TabAt w a ms) (hlen : TabLen ms) (hn : ms.length ≤ 1048576) : CallsR Tryd.prog 18 #[.slice a ms.length c, .agg #[.int .i64 r.th, .int .i64 r.ve, .bool r.rd, .bool r.wr, .bool r.wk]] w (fun v w' => v = .bool (tabLive (tabT ms) r) ∧ w.grownBy w' none) := by
 refine X0 (n := 16) Tryd.func18 rfl Tryd.ntmps18 rfl ?_
 have hb0 := World.grownBy.refl w none
 refine Xb ?_
 refine Yu (v := .agg #[.int .i64 r.th, .int .i64 r.ve, .bool r.rd, .bool r.wr, .bool r.wk]) (cs := #[.int .i64 r.th, .int .i64 r.ve, .bool r.rd, .bool r.wr, .bool r.wk]) rfl rfl rfl ?_
 intro B101 w102 hN103
 have hlB101 := Yf hN103 hb0
 have hb104 := low0 hb0 hN103.grw
 refine Xh (v := .bool false) rfl rfl ?_
 refine Xa ?_
 refine X2 (fun f' w' => (f' 4 = .bool ((tableOk (tabT ms) && rightOk r) && live (tabT ms) r)) ∧ w102.grownBy w' none) ?_ ?_
 ·
  refine Xc (v := .slice a ms.length c) rfl rfl ?_
  refine Xn (vs := [.slice a ms.length c]) Ll (Xg rfl Xm) rfl (K5  _ ms _ _ (TabAt.low ht hb104) hlen (by omega)) ?_
  rintro _ w119 ⟨rfl, hg120⟩
  have hb121 := low0 hb104 hg120
  refine Xc (v := .bool (tableOk (tabT ms))) rfl rfl ?_
  rcases Yb (tableOk (tabT ms)) with h122 | h122
  ·
   refine Xe rfl rfl rfl h122 ?_
   have k123 := (hN103.blk.grown0 hg120)
   refine Xu (vs := [.int .i64 r.th, .int .i64 r.ve, .bool r.rd, .bool r.wr, .bool r.wk]) Y8 rfl rfl (k123.rangeL 0 5 rfl) rfl ?_
   refine Xe rfl rfl rfl h122 ?_
   refine Xn (vs := [.agg #[.int .i64 r.th, .int .i64 r.ve, .bool r.rd, .bool r.wr, .bool r.wk]]) S1 (Xg rfl Xm) rfl (Wt r _) ?_
   rintro _ w124 ⟨rfl, hg125⟩
   have hb126 := low0 hb121 hg125
   refine Xr (v := .bool (rightOk r)) rfl h122 rfl rfl ?_
   refine Xc (v := .bool (rightOk r)) rfl rfl ?_
   rcases Yb (rightOk r) with h127 | h127
   ·
    have hrk128 := U5 h127
    refine Xe rfl rfl rfl h127 ?_
    refine Xc (v := .slice a ms.length c) rfl rfl ?_
    refine Xe rfl rfl rfl h127 ?_
    have k129 := (k123.grown0 hg125)
    refine Xu (vs := [.int .i64 r.th, .int .i64 r.ve, .bool r.rd, .bool r.wr, .bool r.wk]) Y8 rfl rfl (k129.rangeL 0 5 rfl) rfl ?_
    refine Xe rfl rfl rfl h127 ?_
    refine Xn (vs := [.slice a ms.length c, .agg #[.int .i64 r.th, .int .i64 r.ve, .bool r.rd, .bool r.wr, .bool r.wk]]) Tc (Xg rfl (Xg rfl Xm)) rfl (V1 r (by omega) _ ms _ _ (TabAt.low ht hb126) hlen (by omega)) ?_
    rintro _ w130 ⟨rfl, hg131⟩
    have hb132 := low0 hb126 hg131
    refine Xr (v := .bool (live (tabT ms) r)) rfl h127 rfl rfl ?_
    refine Xh (v := .bool (live (tabT ms) r)) rfl rfl ?_
    exact Xa ⟨(congrArg Value.bool (by first | (simp only [h122, h127, b0, b1, b2, b3, b4, b5, b6, b7, b8, b9]; done) | simp [h122, h127])), (grown_trans (grown_trans hg120 hg125) hg131)⟩
   ·
    iterate 3 refine Xk rfl rfl rfl h127 rfl ?_
    refine Xl (v := .bool false) rfl h127 rfl rfl ?_
    refine Xh (v := .bool false) rfl rfl ?_
    exact Xa ⟨(congrArg Value.bool (by first | (simp only [h122, h127, b0, b1, b2, b3, b4, b5, b6, b7, b8, b9]; done) | simp [h122, h127])), (grown_trans hg120 hg125)⟩
  ·
   refine Xk rfl rfl rfl h122 rfl ?_
   refine Xk rfl rfl rfl h122 rfl ?_
   refine Xl (v := .bool false) rfl h122 rfl rfl ?_
   refine Xc (v := .bool false) rfl rfl ?_
   iterate 3 refine Xk rfl rfl rfl rfl rfl ?_
   refine Xl (v := .bool false) rfl rfl rfl rfl ?_
   refine Xh (v := .bool false) rfl rfl ?_
   exact Xa ⟨(congrArg Value.bool (by first | (simp only [h122, b0, b1, b2, b3, b4, b5, b6, b7, b8, b9]; done) | simp [h122])), hg120⟩
 ·
  rintro f133 w134 ⟨e135, hg136⟩
  have hb137 := low0 hb104 hg136
  refine Xs ?_
  refine ⟨.bool ((tableOk (tabT ms) && rightOk r) && live (tabT ms) r), Yq rfl e135, ?_, hb137⟩
  rfl
theorem Sp (q : Int) (hq : (1 ≤ q ∧ q ≤ 9) ∧ ¬ q = 3) (w : World) : CallsR Tryd.prog 57 #[.int .i64 q] w (fun v w' => ∃ B : Nat, v = .agg #[.int .i64 q, .slice (some ⟨B, 0, none⟩) (kindsOf q).length (kindsOf q).length, .bool (need0 q), .bool (need1 q), .bool (need0 q), .bool (need1 q)] ∧ w.heap.size ≤ B ∧ Blk w' B 3 ((kindsOf q).flatMap icell).toArray ∧ w.grownBy w' none) := by
 refine X0 (n := 37) Tryd.func57 rfl Tryd.ntmps57 rfl ?_
 have hb0 := World.grownBy.refl w none
 refine Xb ?_
 refine Yj (cs := #[.int .i64 0, .slice none 0 0, .bool false, .bool false, .bool false, .bool false]) Kd rfl rfl ?_
 intro B101 w102 hN103
 have hlB101 := Yf hN103 hb0
 have hb104 := low0 hb0 hN103.grw
 refine Xa ?_
 refine Xb ?_
 refine X7 (ps := [(0, .int .i64 1)]) (e := 3) (cs := (([1] : List Int).flatMap icell).toArray) (Xp rfl X9) (fun _ => by kernel_rfl) rfl ?_
 intro B105 w106 hN107
 have hlB105 := Yf hN107 hb104
 have lt_B101_B105 := Xq hN107 (hN103.blk).lt
 have hb108 := low0 hb104 hN107.grw
 refine Yw (ps := [(0, .int .i64 1), (1, .slice (some ⟨B105, 0, none⟩) 1 1), (2, .bool true), (4, .bool true)]) (v := .agg #[.int .i64 1, .slice (some ⟨B105, 0, none⟩) 1 1, .bool true, .bool false, .bool true, .bool false]) (Xp rfl (Xp rfl (Xp rfl (Xp rfl X9)))) (by kernel_rfl) rfl ?_
 refine X7 (ps := [(0, .int .i64 1)]) (e := 3) (cs := (([1] : List Int).flatMap icell).toArray) (Xp rfl X9) (fun _ => by kernel_rfl) rfl ?_
 intro B109 w110 hN111
 have hlB109 := Yf hN111 hb108
 have k112 := (hN103.blk.grown0 hN107.grw)
 have lt_B101_B109 := Xq hN111 (k112).lt
 have lt_B105_B109 := Xq hN111 (hN107.blk).lt
 have hb113 := low0 hb108 hN111.grw
 refine Yw (ps := [(0, .int .i64 2), (1, .slice (some ⟨B109, 0, none⟩) 1 1), (3, .bool true), (5, .bool true)]) (v := .agg #[.int .i64 2, .slice (some ⟨B109, 0, none⟩) 1 1, .bool false, .bool true, .bool false, .bool true]) (Xp rfl (Xp rfl (Xp rfl (Xp rfl X9)))) (by kernel_rfl) rfl ?_
 refine X7 (ps := [(0, .int .i64 2)]) (e := 3) (cs := (([2] : List Int).flatMap icell).toArray) (Xp rfl X9) (fun _ => by kernel_rfl) rfl ?_
 intro B114 w115 hN116
 have hlB114 := Yf hN116 hb113
 have k117 := (k112.grown0 hN111.grw)
 have lt_B101_B114 := Xq hN116 (k117).lt
 have k118 := (hN107.blk.grown0 hN111.grw)
 have lt_B105_B114 := Xq hN116 (k118).lt
 have lt_B109_B114 := Xq hN116 (hN111.blk).lt
 have hb119 := low0 hb113 hN116.grw
 refine Yw (ps := [(0, .int .i64 4), (1, .slice (some ⟨B114, 0, none⟩) 1 1), (2, .bool true), (4, .bool true)]) (v := .agg #[.int .i64 4, .slice (some ⟨B114, 0, none⟩) 1 1, .bool true, .bool false, .bool true, .bool false]) (Xp rfl (Xp rfl (Xp rfl (Xp rfl X9)))) (by kernel_rfl) rfl ?_
 refine X7 (ps := [(0, .int .i64 2)]) (e := 3) (cs := (([2] : List Int).flatMap icell).toArray) (Xp rfl X9) (fun _ => by kernel_rfl) rfl ?_
 intro B120 w121 hN122
 have hlB120 := Yf hN122 hb119
 have k123 := (k117.grown0 hN116.grw)
 have lt_B101_B120 := Xq hN122 (k123).lt
 have k124 := (k118.grown0 hN116.grw)
 have lt_B105_B120 := Xq hN122 (k124).lt
 have k125 := (hN111.blk.grown0 hN116.grw)
 have lt_B109_B120 := Xq hN122 (k125).lt
 have lt_B114_B120 := Xq hN122 (hN116.blk).lt
 have hb126 := low0 hb119 hN122.grw
 refine Yw (ps := [(0, .int .i64 5), (1, .slice (some ⟨B120, 0, none⟩) 1 1), (3, .bool true), (5, .bool true)]) (v := .agg #[.int .i64 5, .slice (some ⟨B120, 0, none⟩) 1 1, .bool false, .bool true, .bool false, .bool true]) (Xp rfl (Xp rfl (Xp rfl (Xp rfl X9)))) (by kernel_rfl) rfl ?_
 refine X7 (ps := [(0, .int .i64 4)]) (e := 3) (cs := (([4] : List Int).flatMap icell).toArray) (Xp rfl X9) (fun _ => by kernel_rfl) rfl ?_
 intro B127 w128 hN129
 have hlB127 := Yf hN129 hb126
 have k130 := (k123.grown0 hN122.grw)
 have lt_B101_B127 := Xq hN129 (k130).lt
 have k131 := (k124.grown0 hN122.grw)
 have lt_B105_B127 := Xq hN129 (k131).lt
 have k132 := (k125.grown0 hN122.grw)
 have lt_B109_B127 := Xq hN129 (k132).lt
 have k133 := (hN116.blk.grown0 hN122.grw)
 have lt_B114_B127 := Xq hN129 (k133).lt
 have lt_B120_B127 := Xq hN129 (hN122.blk).lt
 have hb134 := low0 hb126 hN129.grw
 refine Yw (ps := [(0, .int .i64 6), (1, .slice (some ⟨B127, 0, none⟩) 1 1), (3, .bool true), (5, .bool true)]) (v := .agg #[.int .i64 6, .slice (some ⟨B127, 0, none⟩) 1 1, .bool false, .bool true, .bool false, .bool true]) (Xp rfl (Xp rfl (Xp rfl (Xp rfl X9)))) (by kernel_rfl) rfl ?_
 refine X7 (ps := [(0, .int .i64 4)]) (e := 3) (cs := (([4] : List Int).flatMap icell).toArray) (Xp rfl X9) (fun _ => by kernel_rfl) rfl ?_
 intro B135 w136 hN137
 have hlB135 := Yf hN137 hb134
 have k138 := (k130.grown0 hN129.grw)
 have lt_B101_B135 := Xq hN137 (k138).lt
 have k139 := (k131.grown0 hN129.grw)
 have lt_B105_B135 := Xq hN137 (k139).lt
 have k140 := (k132.grown0 hN129.grw)
 have lt_B109_B135 := Xq hN137 (k140).lt
 have k141 := (k133.grown0 hN129.grw)
 have lt_B114_B135 := Xq hN137 (k141).lt
 have k142 := (hN122.blk.grown0 hN129.grw)
 have lt_B120_B135 := Xq hN137 (k142).lt
 have lt_B127_B135 := Xq hN137 (hN129.blk).lt
 have hb143 := low0 hb134 hN137.grw
 refine Yw (ps := [(0, .int .i64 7), (1, .slice (some ⟨B135, 0, none⟩) 1 1), (2, .bool true), (3, .bool true), (4, .bool true), (5, .bool true)]) (v := .agg #[.int .i64 7, .slice (some ⟨B135, 0, none⟩) 1 1, .bool true, .bool true, .bool true, .bool true]) (Xp rfl (Xp rfl (Xp rfl (Xp rfl (Xp rfl (Xp rfl X9)))))) (by kernel_rfl) rfl ?_
 refine X7 (ps := [(0, .int .i64 1), (1, .int .i64 2), (2, .int .i64 4)]) (e := 3) (cs := (([1, 2, 4] : List Int).flatMap icell).toArray) (Xp rfl (Xp rfl (Xp rfl X9))) (fun _ => by kernel_rfl) rfl ?_
 intro B144 w145 hN146
 have hlB144 := Yf hN146 hb143
 have k147 := (k138.grown0 hN137.grw)
 have lt_B101_B144 := Xq hN146 (k147).lt
 have k148 := (k139.grown0 hN137.grw)
 have lt_B105_B144 := Xq hN146 (k148).lt
 have k149 := (k140.grown0 hN137.grw)
 have lt_B109_B144 := Xq hN146 (k149).lt
 have k150 := (k141.grown0 hN137.grw)
 have lt_B114_B144 := Xq hN146 (k150).lt
 have k151 := (k142.grown0 hN137.grw)
 have lt_B120_B144 := Xq hN146 (k151).lt
 have k152 := (hN129.blk.grown0 hN137.grw)
 have lt_B127_B144 := Xq hN146 (k152).lt
 have lt_B135_B144 := Xq hN146 (hN137.blk).lt
 have hb153 := low0 hb143 hN146.grw
 refine Yw (ps := [(0, .int .i64 8), (1, .slice (some ⟨B144, 0, none⟩) 3 3), (3, .bool true), (5, .bool true)]) (v := .agg #[.int .i64 8, .slice (some ⟨B144, 0, none⟩) 3 3, .bool false, .bool true, .bool false, .bool true]) (Xp rfl (Xp rfl (Xp rfl (Xp rfl X9)))) (by kernel_rfl) rfl ?_
 refine X7 (ps := [(0, .int .i64 5)]) (e := 3) (cs := (([5] : List Int).flatMap icell).toArray) (Xp rfl X9) (fun _ => by kernel_rfl) rfl ?_
 intro B154 w155 hN156
 have hlB154 := Yf hN156 hb153
 have k157 := (k147.grown0 hN146.grw)
 have lt_B101_B154 := Xq hN156 (k157).lt
 have k158 := (k148.grown0 hN146.grw)
 have lt_B105_B154 := Xq hN156 (k158).lt
 have k159 := (k149.grown0 hN146.grw)
 have lt_B109_B154 := Xq hN156 (k159).lt
 have k160 := (k150.grown0 hN146.grw)
 have lt_B114_B154 := Xq hN156 (k160).lt
 have k161 := (k151.grown0 hN146.grw)
 have lt_B120_B154 := Xq hN156 (k161).lt
 have k162 := (k152.grown0 hN146.grw)
 have lt_B127_B154 := Xq hN156 (k162).lt
 have k163 := (hN137.blk.grown0 hN146.grw)
 have lt_B135_B154 := Xq hN156 (k163).lt
 have lt_B144_B154 := Xq hN156 (hN146.blk).lt
 have hb164 := low0 hb153 hN156.grw
 refine Yw (ps := [(0, .int .i64 9), (1, .slice (some ⟨B154, 0, none⟩) 1 1), (3, .bool true), (5, .bool true)]) (v := .agg #[.int .i64 9, .slice (some ⟨B154, 0, none⟩) 1 1, .bool false, .bool true, .bool false, .bool true]) (Xp rfl (Xp rfl (Xp rfl (Xp rfl X9)))) (by kernel_rfl) rfl ?_
 refine X7 (ps := [(0, .agg #[.int .i64 1, .slice (some ⟨B105, 0, none⟩) 1 1, .bool true, .bool false, .bool true, .bool false]), (1, .agg #[.int .i64 2, .slice (some ⟨B109, 0, none⟩) 1 1, .bool false, .bool true, .bool false, .bool true]), (2, .agg #[.int .i64 4, .slice (some ⟨B114, 0, none⟩) 1 1, .bool true, .bool false, .bool true, .bool false]), (3, .agg #[.int .i64 5, .slice (some ⟨B120, 0, none⟩) 1 1, .bool false, .bool true, .bool false, .bool true]), (4, .agg #[.int .i64 6, .slice (some ⟨B127, 0, none⟩) 1 1, .bool false, .bool true, .bool false, .bool true]), (5, .agg #[.int .i64 7, .slice (some ⟨B135, 0, none⟩) 1 1, .bool true, .bool true, .bool true, .bool true]), (6, .agg #[.int .i64 8, .slice (some ⟨B144, 0, none⟩) 3 3, .bool false, .bool true, .bool false, .bool true]), (7, .agg #[.int .i64 9, .slice (some ⟨B154, 0, none⟩) 1 1, .bool false, .bool true, .bool false, .bool true])]) (e := 101) (cs := #[.int .i64 1, .slice (some ⟨B105, 0, none⟩) 1 1, .bool true, .bool false, .bool true, .bool false, .int .i64 2, .slice (some ⟨B109, 0, none⟩) 1 1, .bool false, .bool true, .bool false, .bool true, .int .i64 4, .slice (some ⟨B114, 0, none⟩) 1 1, .bool true, .bool false, .bool true, .bool false, .int .i64 5, .slice (some ⟨B120, 0, none⟩) 1 1, .bool false, .bool true, .bool false, .bool true, .int .i64 6, .slice (some ⟨B127, 0, none⟩) 1 1, .bool false, .bool true, .bool false, .bool true, .int .i64 7, .slice (some ⟨B135, 0, none⟩) 1 1, .bool true, .bool true, .bool true, .bool true, .int .i64 8, .slice (some ⟨B144, 0, none⟩) 3 3, .bool false, .bool true, .bool false, .bool true, .int .i64 9, .slice (some ⟨B154, 0, none⟩) 1 1, .bool false, .bool true, .bool false, .bool true]) (Xp rfl (Xp rfl (Xp rfl (Xp rfl (Xp rfl (Xp rfl (Xp rfl (Xp rfl X9)))))))) (fun _ => by kernel_rfl) rfl ?_
 intro B165 w166 hN167
 have hlB165 := Yf hN167 hb164
 have k168 := (k157.grown0 hN156.grw)
 have lt_B101_B165 := Xq hN167 (k168).lt
 have k169 := (k158.grown0 hN156.grw)
 have lt_B105_B165 := Xq hN167 (k169).lt
 have k170 := (k159.grown0 hN156.grw)
 have lt_B109_B165 := Xq hN167 (k170).lt
 have k171 := (k160.grown0 hN156.grw)
 have lt_B114_B165 := Xq hN167 (k171).lt
 have k172 := (k161.grown0 hN156.grw)
 have lt_B120_B165 := Xq hN167 (k172).lt
 have k173 := (k162.grown0 hN156.grw)
 have lt_B127_B165 := Xq hN167 (k173).lt
 have k174 := (k163.grown0 hN156.grw)
 have lt_B135_B165 := Xq hN167 (k174).lt
 have k175 := (hN146.blk.grown0 hN156.grw)
 have lt_B144_B165 := Xq hN167 (k175).lt
 have lt_B154_B165 := Xq hN167 (hN156.blk).lt
 have hb176 := low0 hb164 hN167.grw
 refine Xh (v := .slice (some ⟨B165, 0, none⟩) 8 8) rfl rfl ?_
 refine Xa ?_
 refine Xt ?_
 refine Xb ?_
 refine Xc (v := .slice (some ⟨B165, 0, none⟩) 8 8) rfl rfl ?_
 refine Ym (by kernel_rfl) rfl rfl ?_
 refine Xc (v := .int .i64 0) rfl rfl ?_
 refine Xa ?_
 refine Ye ?_
 have k177 := (k168.grown0 hN167.grw)
 have k178 := (k169.grown0 hN167.grw)
 have k179 := (k170.grown0 hN167.grw)
 have k180 := (k171.grown0 hN167.grw)
 have k181 := (k172.grown0 hN167.grw)
 have k182 := (k173.grown0 hN167.grw)
 have k183 := (k174.grown0 hN167.grw)
 have k184 := (k175.grown0 hN167.grw)
 have k185 := (hN156.blk.grown0 hN167.grw)
 refine Zd (fun mm f' w' => ∃ (i : Int), mm = (8 - i : Int).toNat ∧ ((0 ≤ i ∧ i ≤ 8) ∧ (0 < i → ¬ q = 1) ∧ (1 < i → ¬ q = 2) ∧ (2 < i → ¬ q = 4) ∧ (3 < i → ¬ q = 5) ∧ (4 < i → ¬ q = 6) ∧ (5 < i → ¬ q = 7) ∧ (6 < i → ¬ q = 8) ∧ (7 < i → ¬ q = 9)) ∧ f' 25 = .int .i64 i ∧ f' 0 = .int .i64 q ∧ f' 2 = .pointer (some ⟨B101, 0, none⟩) ∧ f' 23 = .slice (some ⟨B165, 0, none⟩) 8 8 ∧ f' 24 = .int .i64 8 ∧ w.grownBy w' none ∧ Blk w' B101 101 #[.int .i64 0, .slice none 0 0, .bool false, .bool false, .bool false, .bool false] ∧ Blk w' B105 3 (([1] : List Int).flatMap icell).toArray ∧ Blk w' B109 3 (([1] : List Int).flatMap icell).toArray ∧ Blk w' B114 3 (([2] : List Int).flatMap icell).toArray ∧ Blk w' B120 3 (([2] : List Int).flatMap icell).toArray ∧ Blk w' B127 3 (([4] : List Int).flatMap icell).toArray ∧ Blk w' B135 3 (([4] : List Int).flatMap icell).toArray ∧ Blk w' B144 3 (([1, 2, 4] : List Int).flatMap icell).toArray ∧ Blk w' B154 3 (([5] : List Int).flatMap icell).toArray ∧ Blk w' B165 101 #[.int .i64 1, .slice (some ⟨B105, 0, none⟩) 1 1, .bool true, .bool false, .bool true, .bool false, .int .i64 2, .slice (some ⟨B109, 0, none⟩) 1 1, .bool false, .bool true, .bool false, .bool true, .int .i64 4, .slice (some ⟨B114, 0, none⟩) 1 1, .bool true, .bool false, .bool true, .bool false, .int .i64 5, .slice (some ⟨B120, 0, none⟩) 1 1, .bool false, .bool true, .bool false, .bool true, .int .i64 6, .slice (some ⟨B127, 0, none⟩) 1 1, .bool false, .bool true, .bool false, .bool true, .int .i64 7, .slice (some ⟨B135, 0, none⟩) 1 1, .bool true, .bool true, .bool true, .bool true, .int .i64 8, .slice (some ⟨B144, 0, none⟩) 3 3, .bool false, .bool true, .bool false, .bool true, .int .i64 9, .slice (some ⟨B154, 0, none⟩) 1 1, .bool false, .bool true, .bool false, .bool true]) ((8 - 0 : Int).toNat) ⟨0, rfl, (by omega), rfl, rfl, rfl, rfl, rfl, hb176, k177, k178, k179, k180, k181, k182, k183, k184, k185, hN167.blk⟩ ?_
 rintro mm f186 w187 ⟨i, hm189, hi, e190, e191, e192, e193, e194, hb188, k195, k196, k197, k198, k199, k200, k201, k202, k203, k204⟩
 rcases (show i = 0 ∨ i = 1 ∨ i = 2 ∨ i = 3 ∨ i = 4 ∨ i = 5 ∨ i = 6 ∨ i = 7 ∨ i = 8 by omega) with rfl | rfl | rfl | rfl | rfl | rfl | rfl | rfl | rfl
 ·
  refine Xb ?_
  refine Y4 (q := true) e190 e194 (by decide) rfl ?_
  refine Xa ?_
  refine Xt ?_
  refine Zc rfl rfl ?_
  refine Xy ?_
  refine Xv ?_
  refine Xt ?_
  refine Ye ?_
  refine Xb ?_
  refine X8 (o' := 0) K0 e193 e190 (by omega) (by omega) rfl rfl ?_
  refine Xu (vs := [.int .i64 1, .slice (some ⟨B105, 0, none⟩) 1 1, .bool true, .bool false, .bool true, .bool false]) Zg rfl rfl (k204.rangeL 0 6 rfl) rfl ?_
  refine Yj (cs := #[.int .i64 0, .slice none 0 0, .bool false, .bool false, .bool false, .bool false]) Kd rfl rfl ?_
  intro B205 w206 hN207
  have hlB205 := Yf hN207 hb188
  have lt_B101_B205 := Xq hN207 (k195).lt
  have lt_B105_B205 := Xq hN207 (k196).lt
  have lt_B109_B205 := Xq hN207 (k197).lt
  have lt_B114_B205 := Xq hN207 (k198).lt
  have lt_B120_B205 := Xq hN207 (k199).lt
  have lt_B127_B205 := Xq hN207 (k200).lt
  have lt_B135_B205 := Xq hN207 (k201).lt
  have lt_B144_B205 := Xq hN207 (k202).lt
  have lt_B154_B205 := Xq hN207 (k203).lt
  have lt_B165_B205 := Xq hN207 (k204).lt
  have hb208 := low0 hb188 hN207.grw
  refine Xz (vs := [.int .i64 1, .slice (some ⟨B105, 0, none⟩) 1 1, .bool true, .bool false, .bool true, .bool false]) (cs' := #[.int .i64 1, .slice (some ⟨B105, 0, none⟩) 1 1, .bool true, .bool false, .bool true, .bool false]) Zg rfl rfl rfl (by simp [Value.oneCell']) hN207.blk (Nat.le_of_ble_eq_true rfl) rfl ?_
  intro w209 hS210
  have hb211 := low1 hb208 hS210.grw (by omega)
  refine Xa ?_
  refine Xb ?_
  refine Xd (o' := 0) Jl rfl rfl rfl ?_
  refine Xi (v := .int .i64 1) X3 rfl (hS210.blk.cell rfl) rfl ?_
  refine Xc (v := .int .i64 q) e191 rfl ?_
  refine X4 (q := decide (1 = q)) rfl rfl rfl rfl ?_
  refine Xa ?_
  refine Xw rfl (fun h212 => ?_) (fun h212 => ?_)
  ·
   have h213 := of_decide_eq_true h212
   refine Xb ?_
   refine Xu (vs := [.int .i64 1, .slice (some ⟨B105, 0, none⟩) 1 1, .bool true, .bool false, .bool true, .bool false]) Zg rfl rfl (hS210.blk.rangeL 0 6 rfl) rfl ?_
   have k214 := ((k195.grown0 hN207.grw).grown hS210.grw (Xf (by omega)))
   refine Xz (vs := [.int .i64 1, .slice (some ⟨B105, 0, none⟩) 1 1, .bool true, .bool false, .bool true, .bool false]) (cs' := #[.int .i64 1, .slice (some ⟨B105, 0, none⟩) 1 1, .bool true, .bool false, .bool true, .bool false]) Zg e192 rfl rfl (by simp [Value.oneCell']) k214 (Nat.le_of_ble_eq_true rfl) rfl ?_
   intro w215 hS216
   have hb217 := low1 hb211 hS216.grw (by omega)
   refine Xa ?_
   refine Xs ?_
   refine Y6 ?_
   refine Yi ?_
   refine Yi ?_
   refine Y6 ?_
   refine Yi ?_
   have k219 := (((k196.grown0 hN207.grw).grown hS210.grw (Xf (by omega))).grown hS216.grw (Xf (by omega)))
   have eq218 := of_decide_eq_true h212
   have hs221 := k219
   have hk220 : kindsOf q = ([1] : List Int) := by rw [← eq218]; decide
   refine ⟨.agg #[.int .i64 1, .slice (some ⟨B105, 0, none⟩) 1 1, .bool true, .bool false, .bool true, .bool false], Zx rfl (Yh (vs := [.int .i64 1, .slice (some ⟨B105, 0, none⟩) 1 1, .bool true, .bool false, .bool true, .bool false]) Zg e192 rfl (hS216.blk.rangeL 0 6 rfl)), B105, ?_, hlB105, ?_, hb217⟩
   ·
    rw [hk220, ← eq218]; rfl
   ·
    rw [hk220]; exact hs221
  ·
   have h222 := of_decide_eq_false h212
   refine Xy ?_
   refine Yy ?_
   refine Xv ?_
   refine X1 ?_
   refine Yx (c := 1) e190 rfl (by omega) (by omega) (by omega) rfl ?_
   refine Xc (v := .int .i64 1) rfl rfl ?_
   refine Xa ?_
   refine Xv ?_
   have k223 := ((k195.grown0 hN207.grw).grown hS210.grw (Xf (by omega)))
   have k224 := ((k196.grown0 hN207.grw).grown hS210.grw (Xf (by omega)))
   have k225 := ((k197.grown0 hN207.grw).grown hS210.grw (Xf (by omega)))
   have k226 := ((k198.grown0 hN207.grw).grown hS210.grw (Xf (by omega)))
   have k227 := ((k199.grown0 hN207.grw).grown hS210.grw (Xf (by omega)))
   have k228 := ((k200.grown0 hN207.grw).grown hS210.grw (Xf (by omega)))
   have k229 := ((k201.grown0 hN207.grw).grown hS210.grw (Xf (by omega)))
   have k230 := ((k202.grown0 hN207.grw).grown hS210.grw (Xf (by omega)))
   have k231 := ((k203.grown0 hN207.grw).grown hS210.grw (Xf (by omega)))
   have k232 := ((k204.grown0 hN207.grw).grown hS210.grw (Xf (by omega)))
   exact ⟨(8 - 1 : Int).toNat, by omega, 1, rfl, (by omega), rfl, e191, e192, e193, e194, hb211, k223, k224, k225, k226, k227, k228, k229, k230, k231, k232⟩
 ·
  refine Xb ?_
  refine Y4 (q := true) e190 e194 (by decide) rfl ?_
  refine Xa ?_
  refine Xt ?_
  refine Zc rfl rfl ?_
  refine Xy ?_
  refine Xv ?_
  refine Xt ?_
  refine Ye ?_
  refine Xb ?_
  refine X8 (o' := 6) K0 e193 e190 (by omega) (by omega) rfl rfl ?_
  refine Xu (vs := [.int .i64 2, .slice (some ⟨B109, 0, none⟩) 1 1, .bool false, .bool true, .bool false, .bool true]) Zg rfl rfl (k204.rangeL 6 6 rfl) rfl ?_
  refine Yj (cs := #[.int .i64 0, .slice none 0 0, .bool false, .bool false, .bool false, .bool false]) Kd rfl rfl ?_
  intro B233 w234 hN235
  have hlB233 := Yf hN235 hb188
  have lt_B101_B233 := Xq hN235 (k195).lt
  have lt_B105_B233 := Xq hN235 (k196).lt
  have lt_B109_B233 := Xq hN235 (k197).lt
  have lt_B114_B233 := Xq hN235 (k198).lt
  have lt_B120_B233 := Xq hN235 (k199).lt
  have lt_B127_B233 := Xq hN235 (k200).lt
  have lt_B135_B233 := Xq hN235 (k201).lt
  have lt_B144_B233 := Xq hN235 (k202).lt
  have lt_B154_B233 := Xq hN235 (k203).lt
  have lt_B165_B233 := Xq hN235 (k204).lt
  have hb236 := low0 hb188 hN235.grw
  refine Xz (vs := [.int .i64 2, .slice (some ⟨B109, 0, none⟩) 1 1, .bool false, .bool true, .bool false, .bool true]) (cs' := #[.int .i64 2, .slice (some ⟨B109, 0, none⟩) 1 1, .bool false, .bool true, .bool false, .bool true]) Zg rfl rfl rfl (by simp [Value.oneCell']) hN235.blk (Nat.le_of_ble_eq_true rfl) rfl ?_
  intro w237 hS238
  have hb239 := low1 hb236 hS238.grw (by omega)
  refine Xa ?_
  refine Xb ?_
  refine Xd (o' := 0) Jl rfl rfl rfl ?_
  refine Xi (v := .int .i64 2) X3 rfl (hS238.blk.cell rfl) rfl ?_
  refine Xc (v := .int .i64 q) e191 rfl ?_
  refine X4 (q := decide (2 = q)) rfl rfl rfl rfl ?_
  refine Xa ?_
  refine Xw rfl (fun h240 => ?_) (fun h240 => ?_)
  ·
   have h241 := of_decide_eq_true h240
   refine Xb ?_
   refine Xu (vs := [.int .i64 2, .slice (some ⟨B109, 0, none⟩) 1 1, .bool false, .bool true, .bool false, .bool true]) Zg rfl rfl (hS238.blk.rangeL 0 6 rfl) rfl ?_
   have k242 := ((k195.grown0 hN235.grw).grown hS238.grw (Xf (by omega)))
   refine Xz (vs := [.int .i64 2, .slice (some ⟨B109, 0, none⟩) 1 1, .bool false, .bool true, .bool false, .bool true]) (cs' := #[.int .i64 2, .slice (some ⟨B109, 0, none⟩) 1 1, .bool false, .bool true, .bool false, .bool true]) Zg e192 rfl rfl (by simp [Value.oneCell']) k242 (Nat.le_of_ble_eq_true rfl) rfl ?_
   intro w243 hS244
   have hb245 := low1 hb239 hS244.grw (by omega)
   refine Xa ?_
   refine Xs ?_
   refine Y6 ?_
   refine Yi ?_
   refine Yi ?_
   refine Y6 ?_
   refine Yi ?_
   have k247 := (((k197.grown0 hN235.grw).grown hS238.grw (Xf (by omega))).grown hS244.grw (Xf (by omega)))
   have eq246 := of_decide_eq_true h240
   have hs249 := k247
   have hk248 : kindsOf q = ([1] : List Int) := by rw [← eq246]; decide
   refine ⟨.agg #[.int .i64 2, .slice (some ⟨B109, 0, none⟩) 1 1, .bool false, .bool true, .bool false, .bool true], Zx rfl (Yh (vs := [.int .i64 2, .slice (some ⟨B109, 0, none⟩) 1 1, .bool false, .bool true, .bool false, .bool true]) Zg e192 rfl (hS244.blk.rangeL 0 6 rfl)), B109, ?_, hlB109, ?_, hb245⟩
   ·
    rw [hk248, ← eq246]; rfl
   ·
    rw [hk248]; exact hs249
  ·
   have h250 := of_decide_eq_false h240
   refine Xy ?_
   refine Yy ?_
   refine Xv ?_
   refine X1 ?_
   refine Yx (c := 2) e190 rfl (by omega) (by omega) (by omega) rfl ?_
   refine Xc (v := .int .i64 2) rfl rfl ?_
   refine Xa ?_
   refine Xv ?_
   have k251 := ((k195.grown0 hN235.grw).grown hS238.grw (Xf (by omega)))
   have k252 := ((k196.grown0 hN235.grw).grown hS238.grw (Xf (by omega)))
   have k253 := ((k197.grown0 hN235.grw).grown hS238.grw (Xf (by omega)))
   have k254 := ((k198.grown0 hN235.grw).grown hS238.grw (Xf (by omega)))
   have k255 := ((k199.grown0 hN235.grw).grown hS238.grw (Xf (by omega)))
   have k256 := ((k200.grown0 hN235.grw).grown hS238.grw (Xf (by omega)))
   have k257 := ((k201.grown0 hN235.grw).grown hS238.grw (Xf (by omega)))
   have k258 := ((k202.grown0 hN235.grw).grown hS238.grw (Xf (by omega)))
   have k259 := ((k203.grown0 hN235.grw).grown hS238.grw (Xf (by omega)))
   have k260 := ((k204.grown0 hN235.grw).grown hS238.grw (Xf (by omega)))
   exact ⟨(8 - 2 : Int).toNat, by omega, 2, rfl, (by omega), rfl, e191, e192, e193, e194, hb239, k251, k252, k253, k254, k255, k256, k257, k258, k259, k260⟩
 ·
  refine Xb ?_
  refine Y4 (q := true) e190 e194 (by decide) rfl ?_
  refine Xa ?_
  refine Xt ?_
  refine Zc rfl rfl ?_
  refine Xy ?_
  refine Xv ?_
  refine Xt ?_
  refine Ye ?_
  refine Xb ?_
  refine X8 (o' := 12) K0 e193 e190 (by omega) (by omega) rfl rfl ?_
  refine Xu (vs := [.int .i64 4, .slice (some ⟨B114, 0, none⟩) 1 1, .bool true, .bool false, .bool true, .bool false]) Zg rfl rfl (k204.rangeL 12 6 rfl) rfl ?_
  refine Yj (cs := #[.int .i64 0, .slice none 0 0, .bool false, .bool false, .bool false, .bool false]) Kd rfl rfl ?_
  intro B261 w262 hN263
  have hlB261 := Yf hN263 hb188
  have lt_B101_B261 := Xq hN263 (k195).lt
  have lt_B105_B261 := Xq hN263 (k196).lt
  have lt_B109_B261 := Xq hN263 (k197).lt
  have lt_B114_B261 := Xq hN263 (k198).lt
  have lt_B120_B261 := Xq hN263 (k199).lt
  have lt_B127_B261 := Xq hN263 (k200).lt
  have lt_B135_B261 := Xq hN263 (k201).lt
  have lt_B144_B261 := Xq hN263 (k202).lt
  have lt_B154_B261 := Xq hN263 (k203).lt
  have lt_B165_B261 := Xq hN263 (k204).lt
  have hb264 := low0 hb188 hN263.grw
  refine Xz (vs := [.int .i64 4, .slice (some ⟨B114, 0, none⟩) 1 1, .bool true, .bool false, .bool true, .bool false]) (cs' := #[.int .i64 4, .slice (some ⟨B114, 0, none⟩) 1 1, .bool true, .bool false, .bool true, .bool false]) Zg rfl rfl rfl (by simp [Value.oneCell']) hN263.blk (Nat.le_of_ble_eq_true rfl) rfl ?_
  intro w265 hS266
  have hb267 := low1 hb264 hS266.grw (by omega)
  refine Xa ?_
  refine Xb ?_
  refine Xd (o' := 0) Jl rfl rfl rfl ?_
  refine Xi (v := .int .i64 4) X3 rfl (hS266.blk.cell rfl) rfl ?_
  refine Xc (v := .int .i64 q) e191 rfl ?_
  refine X4 (q := decide (4 = q)) rfl rfl rfl rfl ?_
  refine Xa ?_
  refine Xw rfl (fun h268 => ?_) (fun h268 => ?_)
  ·
   have h269 := of_decide_eq_true h268
   refine Xb ?_
   refine Xu (vs := [.int .i64 4, .slice (some ⟨B114, 0, none⟩) 1 1, .bool true, .bool false, .bool true, .bool false]) Zg rfl rfl (hS266.blk.rangeL 0 6 rfl) rfl ?_
   have k270 := ((k195.grown0 hN263.grw).grown hS266.grw (Xf (by omega)))
   refine Xz (vs := [.int .i64 4, .slice (some ⟨B114, 0, none⟩) 1 1, .bool true, .bool false, .bool true, .bool false]) (cs' := #[.int .i64 4, .slice (some ⟨B114, 0, none⟩) 1 1, .bool true, .bool false, .bool true, .bool false]) Zg e192 rfl rfl (by simp [Value.oneCell']) k270 (Nat.le_of_ble_eq_true rfl) rfl ?_
   intro w271 hS272
   have hb273 := low1 hb267 hS272.grw (by omega)
   refine Xa ?_
   refine Xs ?_
   refine Y6 ?_
   refine Yi ?_
   refine Yi ?_
   refine Y6 ?_
   refine Yi ?_
   have k275 := (((k198.grown0 hN263.grw).grown hS266.grw (Xf (by omega))).grown hS272.grw (Xf (by omega)))
   have eq274 := of_decide_eq_true h268
   have hs277 := k275
   have hk276 : kindsOf q = ([2] : List Int) := by rw [← eq274]; decide
   refine ⟨.agg #[.int .i64 4, .slice (some ⟨B114, 0, none⟩) 1 1, .bool true, .bool false, .bool true, .bool false], Zx rfl (Yh (vs := [.int .i64 4, .slice (some ⟨B114, 0, none⟩) 1 1, .bool true, .bool false, .bool true, .bool false]) Zg e192 rfl (hS272.blk.rangeL 0 6 rfl)), B114, ?_, hlB114, ?_, hb273⟩
   ·
    rw [hk276, ← eq274]; rfl
   ·
    rw [hk276]; exact hs277
  ·
   have h278 := of_decide_eq_false h268
   refine Xy ?_
   refine Yy ?_
   refine Xv ?_
   refine X1 ?_
   refine Yx (c := 3) e190 rfl (by omega) (by omega) (by omega) rfl ?_
   refine Xc (v := .int .i64 3) rfl rfl ?_
   refine Xa ?_
   refine Xv ?_
   have k279 := ((k195.grown0 hN263.grw).grown hS266.grw (Xf (by omega)))
   have k280 := ((k196.grown0 hN263.grw).grown hS266.grw (Xf (by omega)))
   have k281 := ((k197.grown0 hN263.grw).grown hS266.grw (Xf (by omega)))
   have k282 := ((k198.grown0 hN263.grw).grown hS266.grw (Xf (by omega)))
   have k283 := ((k199.grown0 hN263.grw).grown hS266.grw (Xf (by omega)))
   have k284 := ((k200.grown0 hN263.grw).grown hS266.grw (Xf (by omega)))
   have k285 := ((k201.grown0 hN263.grw).grown hS266.grw (Xf (by omega)))
   have k286 := ((k202.grown0 hN263.grw).grown hS266.grw (Xf (by omega)))
   have k287 := ((k203.grown0 hN263.grw).grown hS266.grw (Xf (by omega)))
   have k288 := ((k204.grown0 hN263.grw).grown hS266.grw (Xf (by omega)))
   exact ⟨(8 - 3 : Int).toNat, by omega, 3, rfl, (by omega), rfl, e191, e192, e193, e194, hb267, k279, k280, k281, k282, k283, k284, k285, k286, k287, k288⟩
 ·
  refine Xb ?_
  refine Y4 (q := true) e190 e194 (by decide) rfl ?_
  refine Xa ?_
  refine Xt ?_
  refine Zc rfl rfl ?_
  refine Xy ?_
  refine Xv ?_
  refine Xt ?_
  refine Ye ?_
  refine Xb ?_
  refine X8 (o' := 18) K0 e193 e190 (by omega) (by omega) rfl rfl ?_
  refine Xu (vs := [.int .i64 5, .slice (some ⟨B120, 0, none⟩) 1 1, .bool false, .bool true, .bool false, .bool true]) Zg rfl rfl (k204.rangeL 18 6 rfl) rfl ?_
  refine Yj (cs := #[.int .i64 0, .slice none 0 0, .bool false, .bool false, .bool false, .bool false]) Kd rfl rfl ?_
  intro B289 w290 hN291
  have hlB289 := Yf hN291 hb188
  have lt_B101_B289 := Xq hN291 (k195).lt
  have lt_B105_B289 := Xq hN291 (k196).lt
  have lt_B109_B289 := Xq hN291 (k197).lt
  have lt_B114_B289 := Xq hN291 (k198).lt
  have lt_B120_B289 := Xq hN291 (k199).lt
  have lt_B127_B289 := Xq hN291 (k200).lt
  have lt_B135_B289 := Xq hN291 (k201).lt
  have lt_B144_B289 := Xq hN291 (k202).lt
  have lt_B154_B289 := Xq hN291 (k203).lt
  have lt_B165_B289 := Xq hN291 (k204).lt
  have hb292 := low0 hb188 hN291.grw
  refine Xz (vs := [.int .i64 5, .slice (some ⟨B120, 0, none⟩) 1 1, .bool false, .bool true, .bool false, .bool true]) (cs' := #[.int .i64 5, .slice (some ⟨B120, 0, none⟩) 1 1, .bool false, .bool true, .bool false, .bool true]) Zg rfl rfl rfl (by simp [Value.oneCell']) hN291.blk (Nat.le_of_ble_eq_true rfl) rfl ?_
  intro w293 hS294
  have hb295 := low1 hb292 hS294.grw (by omega)
  refine Xa ?_
  refine Xb ?_
  refine Xd (o' := 0) Jl rfl rfl rfl ?_
  refine Xi (v := .int .i64 5) X3 rfl (hS294.blk.cell rfl) rfl ?_
  refine Xc (v := .int .i64 q) e191 rfl ?_
  refine X4 (q := decide (5 = q)) rfl rfl rfl rfl ?_
  refine Xa ?_
  refine Xw rfl (fun h296 => ?_) (fun h296 => ?_)
  ·
   have h297 := of_decide_eq_true h296
   refine Xb ?_
   refine Xu (vs := [.int .i64 5, .slice (some ⟨B120, 0, none⟩) 1 1, .bool false, .bool true, .bool false, .bool true]) Zg rfl rfl (hS294.blk.rangeL 0 6 rfl) rfl ?_
   have k298 := ((k195.grown0 hN291.grw).grown hS294.grw (Xf (by omega)))
   refine Xz (vs := [.int .i64 5, .slice (some ⟨B120, 0, none⟩) 1 1, .bool false, .bool true, .bool false, .bool true]) (cs' := #[.int .i64 5, .slice (some ⟨B120, 0, none⟩) 1 1, .bool false, .bool true, .bool false, .bool true]) Zg e192 rfl rfl (by simp [Value.oneCell']) k298 (Nat.le_of_ble_eq_true rfl) rfl ?_
   intro w299 hS300
   have hb301 := low1 hb295 hS300.grw (by omega)
   refine Xa ?_
   refine Xs ?_
   refine Y6 ?_
   refine Yi ?_
   refine Yi ?_
   refine Y6 ?_
   refine Yi ?_
   have k303 := (((k199.grown0 hN291.grw).grown hS294.grw (Xf (by omega))).grown hS300.grw (Xf (by omega)))
   have eq302 := of_decide_eq_true h296
   have hs305 := k303
   have hk304 : kindsOf q = ([2] : List Int) := by rw [← eq302]; decide
   refine ⟨.agg #[.int .i64 5, .slice (some ⟨B120, 0, none⟩) 1 1, .bool false, .bool true, .bool false, .bool true], Zx rfl (Yh (vs := [.int .i64 5, .slice (some ⟨B120, 0, none⟩) 1 1, .bool false, .bool true, .bool false, .bool true]) Zg e192 rfl (hS300.blk.rangeL 0 6 rfl)), B120, ?_, hlB120, ?_, hb301⟩
   ·
    rw [hk304, ← eq302]; rfl
   ·
    rw [hk304]; exact hs305
  ·
   have h306 := of_decide_eq_false h296
   refine Xy ?_
   refine Yy ?_
   refine Xv ?_
   refine X1 ?_
   refine Yx (c := 4) e190 rfl (by omega) (by omega) (by omega) rfl ?_
   refine Xc (v := .int .i64 4) rfl rfl ?_
   refine Xa ?_
   refine Xv ?_
   have k307 := ((k195.grown0 hN291.grw).grown hS294.grw (Xf (by omega)))
   have k308 := ((k196.grown0 hN291.grw).grown hS294.grw (Xf (by omega)))
   have k309 := ((k197.grown0 hN291.grw).grown hS294.grw (Xf (by omega)))
   have k310 := ((k198.grown0 hN291.grw).grown hS294.grw (Xf (by omega)))
   have k311 := ((k199.grown0 hN291.grw).grown hS294.grw (Xf (by omega)))
   have k312 := ((k200.grown0 hN291.grw).grown hS294.grw (Xf (by omega)))
   have k313 := ((k201.grown0 hN291.grw).grown hS294.grw (Xf (by omega)))
   have k314 := ((k202.grown0 hN291.grw).grown hS294.grw (Xf (by omega)))
   have k315 := ((k203.grown0 hN291.grw).grown hS294.grw (Xf (by omega)))
   have k316 := ((k204.grown0 hN291.grw).grown hS294.grw (Xf (by omega)))
   exact ⟨(8 - 4 : Int).toNat, by omega, 4, rfl, (by omega), rfl, e191, e192, e193, e194, hb295, k307, k308, k309, k310, k311, k312, k313, k314, k315, k316⟩
 ·
  refine Xb ?_
  refine Y4 (q := true) e190 e194 (by decide) rfl ?_
  refine Xa ?_
  refine Xt ?_
  refine Zc rfl rfl ?_
  refine Xy ?_
  refine Xv ?_
  refine Xt ?_
  refine Ye ?_
  refine Xb ?_
  refine X8 (o' := 24) K0 e193 e190 (by omega) (by omega) rfl rfl ?_
  refine Xu (vs := [.int .i64 6, .slice (some ⟨B127, 0, none⟩) 1 1, .bool false, .bool true, .bool false, .bool true]) Zg rfl rfl (k204.rangeL 24 6 rfl) rfl ?_
  refine Yj (cs := #[.int .i64 0, .slice none 0 0, .bool false, .bool false, .bool false, .bool false]) Kd rfl rfl ?_
  intro B317 w318 hN319
  have hlB317 := Yf hN319 hb188
  have lt_B101_B317 := Xq hN319 (k195).lt
  have lt_B105_B317 := Xq hN319 (k196).lt
  have lt_B109_B317 := Xq hN319 (k197).lt
  have lt_B114_B317 := Xq hN319 (k198).lt
  have lt_B120_B317 := Xq hN319 (k199).lt
  have lt_B127_B317 := Xq hN319 (k200).lt
  have lt_B135_B317 := Xq hN319 (k201).lt
  have lt_B144_B317 := Xq hN319 (k202).lt
  have lt_B154_B317 := Xq hN319 (k203).lt
  have lt_B165_B317 := Xq hN319 (k204).lt
  have hb320 := low0 hb188 hN319.grw
  refine Xz (vs := [.int .i64 6, .slice (some ⟨B127, 0, none⟩) 1 1, .bool false, .bool true, .bool false, .bool true]) (cs' := #[.int .i64 6, .slice (some ⟨B127, 0, none⟩) 1 1, .bool false, .bool true, .bool false, .bool true]) Zg rfl rfl rfl (by simp [Value.oneCell']) hN319.blk (Nat.le_of_ble_eq_true rfl) rfl ?_
  intro w321 hS322
  have hb323 := low1 hb320 hS322.grw (by omega)
  refine Xa ?_
  refine Xb ?_
  refine Xd (o' := 0) Jl rfl rfl rfl ?_
  refine Xi (v := .int .i64 6) X3 rfl (hS322.blk.cell rfl) rfl ?_
  refine Xc (v := .int .i64 q) e191 rfl ?_
  refine X4 (q := decide (6 = q)) rfl rfl rfl rfl ?_
  refine Xa ?_
  refine Xw rfl (fun h324 => ?_) (fun h324 => ?_)
  ·
   have h325 := of_decide_eq_true h324
   refine Xb ?_
   refine Xu (vs := [.int .i64 6, .slice (some ⟨B127, 0, none⟩) 1 1, .bool false, .bool true, .bool false, .bool true]) Zg rfl rfl (hS322.blk.rangeL 0 6 rfl) rfl ?_
   have k326 := ((k195.grown0 hN319.grw).grown hS322.grw (Xf (by omega)))
   refine Xz (vs := [.int .i64 6, .slice (some ⟨B127, 0, none⟩) 1 1, .bool false, .bool true, .bool false, .bool true]) (cs' := #[.int .i64 6, .slice (some ⟨B127, 0, none⟩) 1 1, .bool false, .bool true, .bool false, .bool true]) Zg e192 rfl rfl (by simp [Value.oneCell']) k326 (Nat.le_of_ble_eq_true rfl) rfl ?_
   intro w327 hS328
   have hb329 := low1 hb323 hS328.grw (by omega)
   refine Xa ?_
   refine Xs ?_
   refine Y6 ?_
   refine Yi ?_
   refine Yi ?_
   refine Y6 ?_
   refine Yi ?_
   have k331 := (((k200.grown0 hN319.grw).grown hS322.grw (Xf (by omega))).grown hS328.grw (Xf (by omega)))
   have eq330 := of_decide_eq_true h324
   have hs333 := k331
   have hk332 : kindsOf q = ([4] : List Int) := by rw [← eq330]; decide
   refine ⟨.agg #[.int .i64 6, .slice (some ⟨B127, 0, none⟩) 1 1, .bool false, .bool true, .bool false, .bool true], Zx rfl (Yh (vs := [.int .i64 6, .slice (some ⟨B127, 0, none⟩) 1 1, .bool false, .bool true, .bool false, .bool true]) Zg e192 rfl (hS328.blk.rangeL 0 6 rfl)), B127, ?_, hlB127, ?_, hb329⟩
   ·
    rw [hk332, ← eq330]; rfl
   ·
    rw [hk332]; exact hs333
  ·
   have h334 := of_decide_eq_false h324
   refine Xy ?_
   refine Yy ?_
   refine Xv ?_
   refine X1 ?_
   refine Yx (c := 5) e190 rfl (by omega) (by omega) (by omega) rfl ?_
   refine Xc (v := .int .i64 5) rfl rfl ?_
   refine Xa ?_
   refine Xv ?_
   have k335 := ((k195.grown0 hN319.grw).grown hS322.grw (Xf (by omega)))
   have k336 := ((k196.grown0 hN319.grw).grown hS322.grw (Xf (by omega)))
   have k337 := ((k197.grown0 hN319.grw).grown hS322.grw (Xf (by omega)))
   have k338 := ((k198.grown0 hN319.grw).grown hS322.grw (Xf (by omega)))
   have k339 := ((k199.grown0 hN319.grw).grown hS322.grw (Xf (by omega)))
   have k340 := ((k200.grown0 hN319.grw).grown hS322.grw (Xf (by omega)))
   have k341 := ((k201.grown0 hN319.grw).grown hS322.grw (Xf (by omega)))
   have k342 := ((k202.grown0 hN319.grw).grown hS322.grw (Xf (by omega)))
   have k343 := ((k203.grown0 hN319.grw).grown hS322.grw (Xf (by omega)))
   have k344 := ((k204.grown0 hN319.grw).grown hS322.grw (Xf (by omega)))
   exact ⟨(8 - 5 : Int).toNat, by omega, 5, rfl, (by omega), rfl, e191, e192, e193, e194, hb323, k335, k336, k337, k338, k339, k340, k341, k342, k343, k344⟩
 ·
  refine Xb ?_
  refine Y4 (q := true) e190 e194 (by decide) rfl ?_
  refine Xa ?_
  refine Xt ?_
  refine Zc rfl rfl ?_
  refine Xy ?_
  refine Xv ?_
  refine Xt ?_
  refine Ye ?_
  refine Xb ?_
  refine X8 (o' := 30) K0 e193 e190 (by omega) (by omega) rfl rfl ?_
  refine Xu (vs := [.int .i64 7, .slice (some ⟨B135, 0, none⟩) 1 1, .bool true, .bool true, .bool true, .bool true]) Zg rfl rfl (k204.rangeL 30 6 rfl) rfl ?_
  refine Yj (cs := #[.int .i64 0, .slice none 0 0, .bool false, .bool false, .bool false, .bool false]) Kd rfl rfl ?_
  intro B345 w346 hN347
  have hlB345 := Yf hN347 hb188
  have lt_B101_B345 := Xq hN347 (k195).lt
  have lt_B105_B345 := Xq hN347 (k196).lt
  have lt_B109_B345 := Xq hN347 (k197).lt
  have lt_B114_B345 := Xq hN347 (k198).lt
  have lt_B120_B345 := Xq hN347 (k199).lt
  have lt_B127_B345 := Xq hN347 (k200).lt
  have lt_B135_B345 := Xq hN347 (k201).lt
  have lt_B144_B345 := Xq hN347 (k202).lt
  have lt_B154_B345 := Xq hN347 (k203).lt
  have lt_B165_B345 := Xq hN347 (k204).lt
  have hb348 := low0 hb188 hN347.grw
  refine Xz (vs := [.int .i64 7, .slice (some ⟨B135, 0, none⟩) 1 1, .bool true, .bool true, .bool true, .bool true]) (cs' := #[.int .i64 7, .slice (some ⟨B135, 0, none⟩) 1 1, .bool true, .bool true, .bool true, .bool true]) Zg rfl rfl rfl (by simp [Value.oneCell']) hN347.blk (Nat.le_of_ble_eq_true rfl) rfl ?_
  intro w349 hS350
  have hb351 := low1 hb348 hS350.grw (by omega)
  refine Xa ?_
  refine Xb ?_
  refine Xd (o' := 0) Jl rfl rfl rfl ?_
  refine Xi (v := .int .i64 7) X3 rfl (hS350.blk.cell rfl) rfl ?_
  refine Xc (v := .int .i64 q) e191 rfl ?_
  refine X4 (q := decide (7 = q)) rfl rfl rfl rfl ?_
  refine Xa ?_
  refine Xw rfl (fun h352 => ?_) (fun h352 => ?_)
  ·
   have h353 := of_decide_eq_true h352
   refine Xb ?_
   refine Xu (vs := [.int .i64 7, .slice (some ⟨B135, 0, none⟩) 1 1, .bool true, .bool true, .bool true, .bool true]) Zg rfl rfl (hS350.blk.rangeL 0 6 rfl) rfl ?_
   have k354 := ((k195.grown0 hN347.grw).grown hS350.grw (Xf (by omega)))
   refine Xz (vs := [.int .i64 7, .slice (some ⟨B135, 0, none⟩) 1 1, .bool true, .bool true, .bool true, .bool true]) (cs' := #[.int .i64 7, .slice (some ⟨B135, 0, none⟩) 1 1, .bool true, .bool true, .bool true, .bool true]) Zg e192 rfl rfl (by simp [Value.oneCell']) k354 (Nat.le_of_ble_eq_true rfl) rfl ?_
   intro w355 hS356
   have hb357 := low1 hb351 hS356.grw (by omega)
   refine Xa ?_
   refine Xs ?_
   refine Y6 ?_
   refine Yi ?_
   refine Yi ?_
   refine Y6 ?_
   refine Yi ?_
   have k359 := (((k201.grown0 hN347.grw).grown hS350.grw (Xf (by omega))).grown hS356.grw (Xf (by omega)))
   have eq358 := of_decide_eq_true h352
   have hs361 := k359
   have hk360 : kindsOf q = ([4] : List Int) := by rw [← eq358]; decide
   refine ⟨.agg #[.int .i64 7, .slice (some ⟨B135, 0, none⟩) 1 1, .bool true, .bool true, .bool true, .bool true], Zx rfl (Yh (vs := [.int .i64 7, .slice (some ⟨B135, 0, none⟩) 1 1, .bool true, .bool true, .bool true, .bool true]) Zg e192 rfl (hS356.blk.rangeL 0 6 rfl)), B135, ?_, hlB135, ?_, hb357⟩
   ·
    rw [hk360, ← eq358]; rfl
   ·
    rw [hk360]; exact hs361
  ·
   have h362 := of_decide_eq_false h352
   refine Xy ?_
   refine Yy ?_
   refine Xv ?_
   refine X1 ?_
   refine Yx (c := 6) e190 rfl (by omega) (by omega) (by omega) rfl ?_
   refine Xc (v := .int .i64 6) rfl rfl ?_
   refine Xa ?_
   refine Xv ?_
   have k363 := ((k195.grown0 hN347.grw).grown hS350.grw (Xf (by omega)))
   have k364 := ((k196.grown0 hN347.grw).grown hS350.grw (Xf (by omega)))
   have k365 := ((k197.grown0 hN347.grw).grown hS350.grw (Xf (by omega)))
   have k366 := ((k198.grown0 hN347.grw).grown hS350.grw (Xf (by omega)))
   have k367 := ((k199.grown0 hN347.grw).grown hS350.grw (Xf (by omega)))
   have k368 := ((k200.grown0 hN347.grw).grown hS350.grw (Xf (by omega)))
   have k369 := ((k201.grown0 hN347.grw).grown hS350.grw (Xf (by omega)))
   have k370 := ((k202.grown0 hN347.grw).grown hS350.grw (Xf (by omega)))
   have k371 := ((k203.grown0 hN347.grw).grown hS350.grw (Xf (by omega)))
   have k372 := ((k204.grown0 hN347.grw).grown hS350.grw (Xf (by omega)))
   exact ⟨(8 - 6 : Int).toNat, by omega, 6, rfl, (by omega), rfl, e191, e192, e193, e194, hb351, k363, k364, k365, k366, k367, k368, k369, k370, k371, k372⟩
 ·
  refine Xb ?_
  refine Y4 (q := true) e190 e194 (by decide) rfl ?_
  refine Xa ?_
  refine Xt ?_
  refine Zc rfl rfl ?_
  refine Xy ?_
  refine Xv ?_
  refine Xt ?_
  refine Ye ?_
  refine Xb ?_
  refine X8 (o' := 36) K0 e193 e190 (by omega) (by omega) rfl rfl ?_
  refine Xu (vs := [.int .i64 8, .slice (some ⟨B144, 0, none⟩) 3 3, .bool false, .bool true, .bool false, .bool true]) Zg rfl rfl (k204.rangeL 36 6 rfl) rfl ?_
  refine Yj (cs := #[.int .i64 0, .slice none 0 0, .bool false, .bool false, .bool false, .bool false]) Kd rfl rfl ?_
  intro B373 w374 hN375
  have hlB373 := Yf hN375 hb188
  have lt_B101_B373 := Xq hN375 (k195).lt
  have lt_B105_B373 := Xq hN375 (k196).lt
  have lt_B109_B373 := Xq hN375 (k197).lt
  have lt_B114_B373 := Xq hN375 (k198).lt
  have lt_B120_B373 := Xq hN375 (k199).lt
  have lt_B127_B373 := Xq hN375 (k200).lt
  have lt_B135_B373 := Xq hN375 (k201).lt
  have lt_B144_B373 := Xq hN375 (k202).lt
  have lt_B154_B373 := Xq hN375 (k203).lt
  have lt_B165_B373 := Xq hN375 (k204).lt
  have hb376 := low0 hb188 hN375.grw
  refine Xz (vs := [.int .i64 8, .slice (some ⟨B144, 0, none⟩) 3 3, .bool false, .bool true, .bool false, .bool true]) (cs' := #[.int .i64 8, .slice (some ⟨B144, 0, none⟩) 3 3, .bool false, .bool true, .bool false, .bool true]) Zg rfl rfl rfl (by simp [Value.oneCell']) hN375.blk (Nat.le_of_ble_eq_true rfl) rfl ?_
  intro w377 hS378
  have hb379 := low1 hb376 hS378.grw (by omega)
  refine Xa ?_
  refine Xb ?_
  refine Xd (o' := 0) Jl rfl rfl rfl ?_
  refine Xi (v := .int .i64 8) X3 rfl (hS378.blk.cell rfl) rfl ?_
  refine Xc (v := .int .i64 q) e191 rfl ?_
  refine X4 (q := decide (8 = q)) rfl rfl rfl rfl ?_
  refine Xa ?_
  refine Xw rfl (fun h380 => ?_) (fun h380 => ?_)
  ·
   have h381 := of_decide_eq_true h380
   refine Xb ?_
   refine Xu (vs := [.int .i64 8, .slice (some ⟨B144, 0, none⟩) 3 3, .bool false, .bool true, .bool false, .bool true]) Zg rfl rfl (hS378.blk.rangeL 0 6 rfl) rfl ?_
   have k382 := ((k195.grown0 hN375.grw).grown hS378.grw (Xf (by omega)))
   refine Xz (vs := [.int .i64 8, .slice (some ⟨B144, 0, none⟩) 3 3, .bool false, .bool true, .bool false, .bool true]) (cs' := #[.int .i64 8, .slice (some ⟨B144, 0, none⟩) 3 3, .bool false, .bool true, .bool false, .bool true]) Zg e192 rfl rfl (by simp [Value.oneCell']) k382 (Nat.le_of_ble_eq_true rfl) rfl ?_
   intro w383 hS384
   have hb385 := low1 hb379 hS384.grw (by omega)
   refine Xa ?_
   refine Xs ?_
   refine Y6 ?_
   refine Yi ?_
   refine Yi ?_
   refine Y6 ?_
   refine Yi ?_
   have k387 := (((k202.grown0 hN375.grw).grown hS378.grw (Xf (by omega))).grown hS384.grw (Xf (by omega)))
   have eq386 := of_decide_eq_true h380
   have hs389 := k387
   have hk388 : kindsOf q = ([1, 2, 4] : List Int) := by rw [← eq386]; decide
   refine ⟨.agg #[.int .i64 8, .slice (some ⟨B144, 0, none⟩) 3 3, .bool false, .bool true, .bool false, .bool true], Zx rfl (Yh (vs := [.int .i64 8, .slice (some ⟨B144, 0, none⟩) 3 3, .bool false, .bool true, .bool false, .bool true]) Zg e192 rfl (hS384.blk.rangeL 0 6 rfl)), B144, ?_, hlB144, ?_, hb385⟩
   ·
    rw [hk388, ← eq386]; rfl
   ·
    rw [hk388]; exact hs389
  ·
   have h390 := of_decide_eq_false h380
   refine Xy ?_
   refine Yy ?_
   refine Xv ?_
   refine X1 ?_
   refine Yx (c := 7) e190 rfl (by omega) (by omega) (by omega) rfl ?_
   refine Xc (v := .int .i64 7) rfl rfl ?_
   refine Xa ?_
   refine Xv ?_
   have k391 := ((k195.grown0 hN375.grw).grown hS378.grw (Xf (by omega)))
   have k392 := ((k196.grown0 hN375.grw).grown hS378.grw (Xf (by omega)))
   have k393 := ((k197.grown0 hN375.grw).grown hS378.grw (Xf (by omega)))
   have k394 := ((k198.grown0 hN375.grw).grown hS378.grw (Xf (by omega)))
   have k395 := ((k199.grown0 hN375.grw).grown hS378.grw (Xf (by omega)))
   have k396 := ((k200.grown0 hN375.grw).grown hS378.grw (Xf (by omega)))
   have k397 := ((k201.grown0 hN375.grw).grown hS378.grw (Xf (by omega)))
   have k398 := ((k202.grown0 hN375.grw).grown hS378.grw (Xf (by omega)))
   have k399 := ((k203.grown0 hN375.grw).grown hS378.grw (Xf (by omega)))
   have k400 := ((k204.grown0 hN375.grw).grown hS378.grw (Xf (by omega)))
   exact ⟨(8 - 7 : Int).toNat, by omega, 7, rfl, (by omega), rfl, e191, e192, e193, e194, hb379, k391, k392, k393, k394, k395, k396, k397, k398, k399, k400⟩
 ·
  refine Xb ?_
  refine Y4 (q := true) e190 e194 (by decide) rfl ?_
  refine Xa ?_
  refine Xt ?_
  refine Zc rfl rfl ?_
  refine Xy ?_
  refine Xv ?_
  refine Xt ?_
  refine Ye ?_
  refine Xb ?_
  refine X8 (o' := 42) K0 e193 e190 (by omega) (by omega) rfl rfl ?_
  refine Xu (vs := [.int .i64 9, .slice (some ⟨B154, 0, none⟩) 1 1, .bool false, .bool true, .bool false, .bool true]) Zg rfl rfl (k204.rangeL 42 6 rfl) rfl ?_
  refine Yj (cs := #[.int .i64 0, .slice none 0 0, .bool false, .bool false, .bool false, .bool false]) Kd rfl rfl ?_
  intro B401 w402 hN403
  have hlB401 := Yf hN403 hb188
  have lt_B101_B401 := Xq hN403 (k195).lt
  have lt_B105_B401 := Xq hN403 (k196).lt
  have lt_B109_B401 := Xq hN403 (k197).lt
  have lt_B114_B401 := Xq hN403 (k198).lt
  have lt_B120_B401 := Xq hN403 (k199).lt
  have lt_B127_B401 := Xq hN403 (k200).lt
  have lt_B135_B401 := Xq hN403 (k201).lt
  have lt_B144_B401 := Xq hN403 (k202).lt
  have lt_B154_B401 := Xq hN403 (k203).lt
  have lt_B165_B401 := Xq hN403 (k204).lt
  have hb404 := low0 hb188 hN403.grw
  refine Xz (vs := [.int .i64 9, .slice (some ⟨B154, 0, none⟩) 1 1, .bool false, .bool true, .bool false, .bool true]) (cs' := #[.int .i64 9, .slice (some ⟨B154, 0, none⟩) 1 1, .bool false, .bool true, .bool false, .bool true]) Zg rfl rfl rfl (by simp [Value.oneCell']) hN403.blk (Nat.le_of_ble_eq_true rfl) rfl ?_
  intro w405 hS406
  have hb407 := low1 hb404 hS406.grw (by omega)
  refine Xa ?_
  refine Xb ?_
  refine Xd (o' := 0) Jl rfl rfl rfl ?_
  refine Xi (v := .int .i64 9) X3 rfl (hS406.blk.cell rfl) rfl ?_
  refine Xc (v := .int .i64 q) e191 rfl ?_
  refine X4 (q := decide (9 = q)) rfl rfl rfl rfl ?_
  refine Xa ?_
  refine Xw rfl (fun h408 => ?_) (fun h408 => ?_)
  ·
   have h409 := of_decide_eq_true h408
   refine Xb ?_
   refine Xu (vs := [.int .i64 9, .slice (some ⟨B154, 0, none⟩) 1 1, .bool false, .bool true, .bool false, .bool true]) Zg rfl rfl (hS406.blk.rangeL 0 6 rfl) rfl ?_
   have k410 := ((k195.grown0 hN403.grw).grown hS406.grw (Xf (by omega)))
   refine Xz (vs := [.int .i64 9, .slice (some ⟨B154, 0, none⟩) 1 1, .bool false, .bool true, .bool false, .bool true]) (cs' := #[.int .i64 9, .slice (some ⟨B154, 0, none⟩) 1 1, .bool false, .bool true, .bool false, .bool true]) Zg e192 rfl rfl (by simp [Value.oneCell']) k410 (Nat.le_of_ble_eq_true rfl) rfl ?_
   intro w411 hS412
   have hb413 := low1 hb407 hS412.grw (by omega)
   refine Xa ?_
   refine Xs ?_
   refine Y6 ?_
   refine Yi ?_
   refine Yi ?_
   refine Y6 ?_
   refine Yi ?_
   have k415 := (((k203.grown0 hN403.grw).grown hS406.grw (Xf (by omega))).grown hS412.grw (Xf (by omega)))
   have eq414 := of_decide_eq_true h408
   have hs417 := k415
   have hk416 : kindsOf q = ([5] : List Int) := by rw [← eq414]; decide
   refine ⟨.agg #[.int .i64 9, .slice (some ⟨B154, 0, none⟩) 1 1, .bool false, .bool true, .bool false, .bool true], Zx rfl (Yh (vs := [.int .i64 9, .slice (some ⟨B154, 0, none⟩) 1 1, .bool false, .bool true, .bool false, .bool true]) Zg e192 rfl (hS412.blk.rangeL 0 6 rfl)), B154, ?_, hlB154, ?_, hb413⟩
   ·
    rw [hk416, ← eq414]; rfl
   ·
    rw [hk416]; exact hs417
  ·
   have h418 := of_decide_eq_false h408
   refine Xy ?_
   refine Yy ?_
   refine Xv ?_
   refine X1 ?_
   refine Yx (c := 8) e190 rfl (by omega) (by omega) (by omega) rfl ?_
   refine Xc (v := .int .i64 8) rfl rfl ?_
   refine Xa ?_
   refine Xv ?_
   have k419 := ((k195.grown0 hN403.grw).grown hS406.grw (Xf (by omega)))
   have k420 := ((k196.grown0 hN403.grw).grown hS406.grw (Xf (by omega)))
   have k421 := ((k197.grown0 hN403.grw).grown hS406.grw (Xf (by omega)))
   have k422 := ((k198.grown0 hN403.grw).grown hS406.grw (Xf (by omega)))
   have k423 := ((k199.grown0 hN403.grw).grown hS406.grw (Xf (by omega)))
   have k424 := ((k200.grown0 hN403.grw).grown hS406.grw (Xf (by omega)))
   have k425 := ((k201.grown0 hN403.grw).grown hS406.grw (Xf (by omega)))
   have k426 := ((k202.grown0 hN403.grw).grown hS406.grw (Xf (by omega)))
   have k427 := ((k203.grown0 hN403.grw).grown hS406.grw (Xf (by omega)))
   have k428 := ((k204.grown0 hN403.grw).grown hS406.grw (Xf (by omega)))
   exact ⟨(8 - 8 : Int).toNat, by omega, 8, rfl, (by omega), rfl, e191, e192, e193, e194, hb407, k419, k420, k421, k422, k423, k424, k425, k426, k427, k428⟩
 ·
  refine Xb ?_
  refine Y4 (q := false) e190 e194 (by decide) rfl ?_
  refine Xa ?_
  refine Xt ?_
  refine Zr rfl rfl ?_
  refine Y5 ?_
  refine Y2 ?_
  refine Y2 ?_
  refine Z1 ?_
  refine Xv ?_
  refine Xb ?_
  refine Xc (v := .int .i64 q) e191 rfl ?_
  refine Yw (ps := [(0, .int .i64 q)]) (v := .agg #[.int .i64 q, .slice none 0 0, .bool false, .bool false, .bool false, .bool false]) (Xp rfl X9) (by kernel_rfl) rfl ?_
  refine Xz (vs := [.int .i64 q, .slice none 0 0, .bool false, .bool false, .bool false, .bool false]) (cs' := #[.int .i64 q, .slice none 0 0, .bool false, .bool false, .bool false, .bool false]) Zg e192 rfl rfl (by simp [Value.oneCell']) k195 (Nat.le_of_ble_eq_true rfl) rfl ?_
  intro w429 hS430
  have hb431 := low1 hb188 hS430.grw (by omega)
  refine Xa ?_
  refine Xs ?_
  exfalso; omega
theorem Ng (k x : Int) (b0 b1 b2 b3 : Bool) (w : World) (xs : List Int) (a : Option Addr) (c : Nat) (hs : SlAt w a 1 (xs.map icell)) (hn : xs.length ≤ 1048576) : CallsR Tryd.prog 58 #[.agg #[.int .i64 k, .slice a xs.length c, .bool b0, .bool b1, .bool b2, .bool b3], .int .i64 x] w (fun v w' => v = .bool (xs.any (fun y : Int => decide (y = x))) ∧ w.grownBy w' none) := by
 refine X0 (n := 18) Tryd.func58 rfl Tryd.ntmps58 rfl ?_
 have hb0 := World.grownBy.refl w none
 refine Xb ?_
 refine Yu (v := .agg #[.int .i64 k, .slice a xs.length c, .bool b0, .bool b1, .bool b2, .bool b3]) (cs := #[.int .i64 k, .slice a xs.length c, .bool b0, .bool b1, .bool b2, .bool b3]) rfl rfl rfl ?_
 intro B101 w102 hN103
 have hlB101 := Yf hN103 hb0
 have hb104 := low0 hb0 hN103.grw
 refine Xh (v := .bool false) rfl rfl ?_
 refine Xa ?_
 refine Xt ?_
 refine Xb ?_
 refine Xd (o' := 1) Px rfl rfl rfl ?_
 refine Xi (v := .slice a xs.length c) Jo rfl (hN103.blk.cell rfl) rfl ?_
 refine Ym (by kernel_rfl) rfl rfl ?_
 refine Xc (v := .int .i64 0) rfl rfl ?_
 refine Xa ?_
 refine Ye ?_
 refine Zd (fun mm f' w' => ∃ (k1 : Nat), mm = xs.length - k1 ∧ k1 ≤ xs.length ∧ ((xs.take k1).any (fun y : Int => decide (y = x))) = false ∧ f' 10 = .int .i64 (k1 : Int) ∧ f' 1 = .int .i64 x ∧ f' 8 = .slice a xs.length c ∧ f' 9 = .int .i64 (xs.length : Int) ∧ w.grownBy w' none) (xs.length - 0) ⟨0, rfl, (Nat.zero_le _), rfl, rfl, rfl, rfl, rfl, hb104⟩ ?_
 rintro mm f105 w106 ⟨k1, hm108, hk1, ha, e109, e110, e111, e112, hb107⟩
 refine Xb ?_
 refine Y4 (q := decide ((k1 : Int) < (xs.length : Int))) e109 e112 rfl rfl ?_
 refine Xa ?_
 refine Xt ?_
 refine Xw rfl (fun h113 => ?_) (fun h113 => ?_)
 ·
  have h114 := of_decide_eq_true h113
  refine Xy ?_
  refine Xv ?_
  refine Xt ?_
  refine Ye ?_
  refine Xb ?_
  obtain ⟨x115, hx116⟩ := Zf (l := xs) (i := k1) (by omega)
  obtain ⟨b117, q118, o119, ha120, ho121, hr122⟩ := SlAt.at hs (Yn hx116)
  refine Yd Qa e111 e109 ha120 ho121 (by omega) (by omega) rfl ?_
  refine Xi (v := .int .i64 x115) X3 rfl ((Yo hr122 hb107) 0 _ rfl) rfl ?_
  refine Xh (v := .int .i64 x115) rfl rfl ?_
  refine Xa ?_
  refine Xb ?_
  refine Xc (v := .int .i64 x115) rfl rfl ?_
  refine Xc (v := .int .i64 x) e110 rfl ?_
  refine X4 (q := decide (x115 = x)) rfl rfl rfl rfl ?_
  refine Xa ?_
  refine Xw rfl (fun h123 => ?_) (fun h123 => ?_)
  ·
   have h124 := of_decide_eq_true h123
   refine Xb ?_
   refine Xh (v := .bool true) rfl rfl ?_
   refine Xa ?_
   refine Xs ?_
   refine Y6 ?_
   refine Yi ?_
   refine Yi ?_
   refine Y6 ?_
   refine Yi ?_
   refine ⟨.bool true, Yq rfl rfl, ?_, hb107⟩
   exact congrArg Value.bool (Gu (p := (fun y : Int => decide (y = x))) hx116 h123).symm
  ·
   have h125 := of_decide_eq_false h123
   refine Xy ?_
   refine Yy ?_
   refine Xv ?_
   refine X1 ?_
   refine Yx (c := (k1 : Int) + 1) e109 rfl (by omega) (by omega) (by omega) rfl ?_
   refine Xc (v := .int .i64 ((k1 : Int) + 1)) rfl rfl ?_
   refine Xa ?_
   refine Xv ?_
   exact ⟨xs.length - (k1 + 1), by omega, (k1 + 1), rfl, (by omega), (We (p := (fun y : Int => decide (y = x))) ha hx116 h123), rfl, e110, e111, e112, hb107⟩
 ·
  have h126 := of_decide_eq_false h113
  refine Y5 ?_
  refine Y2 ?_
  refine Y2 ?_
  refine Z1 ?_
  refine Xv ?_
  refine Xb ?_
  refine Xh (v := .bool false) rfl rfl ?_
  refine Xa ?_
  refine Xs ?_
  refine ⟨.bool false, Yq rfl rfl, ?_, hb107⟩
  exact congrArg Value.bool (G3 (p := (fun y : Int => decide (y = x))) ha (by omega)).symm
theorem Wp (q : Cl) (w : World) (ms : List MTh) (a : Option Addr) (c : Nat) (ht : TabAt w a ms) (hlen : TabLen ms) (hn : ms.length ≤ 1048576) : CallsR Tryd.prog 27 #[.slice a ms.length c, .agg #[.int .i64 q.kind, .int .i64 q.run, .int .i64 q.a, .int .i64 q.b, .int .i64 q.n]] w (fun v w' => ((chkAll (tabT ms) q = 0 ∧ v = .nilIface) ∨ (∃ R : Nat, (¬ chkAll (tabT ms) q = 0 ∧ v = .iface 58 (.pointer (some ⟨R, 0, none⟩))) ∧ w.heap.size ≤ R ∧ Blk w' R 65 #[.int .i64 (chkAll (tabT ms) q)])) ∧ w.grownBy w' none) := by
 refine X0 (n := 107) Tryd.func27 rfl Tryd.ntmps27 rfl ?_
 have hb0 := World.grownBy.refl w none
 refine Xb ?_
 refine Yu (v := .agg #[.int .i64 q.kind, .int .i64 q.run, .int .i64 q.a, .int .i64 q.b, .int .i64 q.n]) (cs := #[.int .i64 q.kind, .int .i64 q.run, .int .i64 q.a, .int .i64 q.b, .int .i64 q.n]) rfl rfl rfl ?_
 intro B101 w102 hN103
 have hlB101 := Yf hN103 hb0
 have hb104 := low0 hb0 hN103.grw
 refine Xh (v := .nilIface) rfl rfl ?_
 refine Xa ?_
 refine Xt ?_
 refine Xb ?_
 refine Xc (v := .slice a ms.length c) rfl rfl ?_
 refine Xu (vs := [.int .i64 q.kind, .int .i64 q.run, .int .i64 q.a, .int .i64 q.b, .int .i64 q.n]) Yv rfl rfl (hN103.blk.rangeL 0 5 rfl) rfl ?_
 refine Xn (vs := [.slice a ms.length c, .agg #[.int .i64 q.kind, .int .i64 q.run, .int .i64 q.a, .int .i64 q.b, .int .i64 q.n]]) T4 (Xg rfl (Xg rfl Xm)) rfl (H6 q _ ms _ _ (TabAt.low ht hb104) hlen (by omega)) ?_
 rintro _ w105 ⟨rfl, hg106⟩
 have hb107 := low0 hb104 hg106
 refine Yk (b' := !callPoss (tabT ms) q) rfl rfl rfl ?_
 refine Xa ?_
 refine Xw rfl (fun h108 => ?_) (fun h108 => ?_)
 ·
  have h109 := Zn h108
  refine Xb ?_
  refine Yw (ps := [(0, .int .i64 (-1))]) (v := .agg #[.int .i64 (-1)]) (Xp rfl X9) (by kernel_rfl) rfl ?_
  refine Yu (v := .agg #[.int .i64 (-1)]) (cs := #[.int .i64 (-1)]) rfl rfl rfl ?_
  intro B110 w111 hN112
  have hlB110 := Yf hN112 hb107
  have k113 := (hN103.blk.grown0 hg106)
  have lt_B101_B110 := Xq hN112 (k113).lt
  have hb114 := low0 hb107 hN112.grw
  refine Je (v := .pointer (some ⟨B110, 0, none⟩)) (by kernel_rfl) rfl rfl ?_
  refine Xh (v := .iface 58 (.pointer (some ⟨B110, 0, none⟩))) rfl rfl ?_
  refine Xa ?_
  refine Xs ?_
  refine Yi ?_
  have hck115 : chkAll (tabT ms) q = -1 := Wf h109
  refine ⟨.iface 58 (.pointer (some ⟨B110, 0, none⟩)), Yq rfl rfl, Or.inr ⟨B110, ⟨by rw [hck115]; decide, rfl⟩, hlB110, ?_⟩, hb114⟩
  rw [hck115]; exact hN112.blk
 ·
  have h116 := Zh h108
  obtain ⟨hT117, hc118, hkd119⟩ := Zs h116
  have hco120 := Z2 hc118
  have hkp121 := (Z5 hkd119).1
  have h4122 := Jc hT117 hkd119
  have hml123 := K7 hT117
  refine Xy ?_
  refine Xv ?_
  refine Xt ?_
  refine Xb ?_
  refine Xd (o' := 0) Zm rfl rfl rfl ?_
  have k124 := (hN103.blk.grown0 hg106)
  refine Xi (v := .int .i64 q.kind) X3 rfl (k124.cell rfl) rfl ?_
  refine X4 (q := decide (q.kind = 3)) rfl rfl rfl rfl ?_
  refine Xa ?_
  refine Xw rfl (fun h125 => ?_) (fun h125 => ?_)
  ·
   have h126 := of_decide_eq_true h125
   refine Xb ?_
   refine Xh (v := .nilIface) rfl rfl ?_
   refine Xa ?_
   refine Xs ?_
   refine Yi ?_
   have hck127 : chkAll (tabT ms) q = 0 := (Z3 h116).trans (U6 h125).symm
   exact ⟨.nilIface, Yq rfl rfl, Or.inl ⟨hck127, rfl⟩, hb107⟩
  ·
   have h128 := of_decide_eq_false h125
   refine Xy ?_
   refine Xv ?_
   refine Xb ?_
   refine Xd (o' := 0) Zm rfl rfl rfl ?_
   refine Xi (v := .int .i64 q.kind) X3 rfl (k124.cell rfl) rfl ?_
   refine Xn (vs := [.int .i64 q.kind]) Mf (Xg rfl Xm) rfl (Sp q.kind (by omega) _) ?_
   rintro _ w133 ⟨B129, rfl, hge130, hSl131, hg132⟩
   have hb134 := low0 hb107 hg132
   have hlB129 := Nat.le_trans hb107.size hge130
   have lt_B101_B129 := Nat.lt_of_lt_of_le (k124).lt hge130
   refine Yj (cs := #[.int .i64 0, .slice none 0 0, .bool false, .bool false, .bool false, .bool false]) Kd rfl rfl ?_
   intro B135 w136 hN137
   have hlB135 := Yf hN137 hb134
   have k138 := (k124.grown0 hg132)
   have lt_B101_B135 := Xq hN137 (k138).lt
   have lt_B129_B135 := Xq hN137 (hSl131).lt
   have hb139 := low0 hb134 hN137.grw
   refine Xz (vs := [.int .i64 q.kind, .slice (some ⟨B129, 0, none⟩) ((kindsOf q.kind).length) ((kindsOf q.kind).length), .bool (need0 q.kind), .bool (need1 q.kind), .bool (need0 q.kind), .bool (need1 q.kind)]) (cs' := #[.int .i64 q.kind, .slice (some ⟨B129, 0, none⟩) ((kindsOf q.kind).length) ((kindsOf q.kind).length), .bool (need0 q.kind), .bool (need1 q.kind), .bool (need0 q.kind), .bool (need1 q.kind)]) Zg rfl rfl rfl (by simp [Value.oneCell']) hN137.blk (Nat.le_of_ble_eq_true rfl) rfl ?_
   intro w140 hS141
   have hb142 := low1 hb139 hS141.grw (by omega)
   refine Xa ?_
   refine Xt ?_
   obtain ⟨b200, q201, o202, ha203, ho204, hr205⟩ := SlAt.at (TabAt.low ht hb142).1 (Yn (Ya (show (q.run - 1).toNat < ms.length by omega)))
   have hle206 := TabLen.at hlen (Ya (show (q.run - 1).toNat < ms.length by omega))
   obtain ⟨b210, q211, o212, ha213, ho214, hr215⟩ := SlAt.at (TabAt.th (TabAt.low ht hb142) (Ya (show (q.run - 1).toNat < ms.length by omega))).1 (Yn (Qg (show (q.a).toNat < (mAt ms ((q.run - 1).toNat)).t.slots.length by omega)))
   have hts216 := Ku hT117 (show ((q.run - 1).toNat) < ms.length by omega) (show ((q.a).toNat) < (mAt ms ((q.run - 1).toNat)).t.slots.length by omega)
   refine Qs (m := 12) [[], [], [1], [1, 2], [0, 1, 2, 3], [0, 1, 2, 3, 4], [0, 1, 2, 3, 4, 5], [], [7], [0, 1, 2, 3, 4, 5, 6, 7, 8], [0, 1, 2, 3, 4, 5, 6, 7, 8, 9], [], [0, 1, 2, 3, 4, 5, 6, 7, 8, 9, 10, 11]] (fun S F w' => ∃ (B224 : Nat), w140.grownBy w' none ∧ F 0 = .slice a ms.length c ∧ F 3 = .pointer (some ⟨B101, 0, none⟩) ∧ F 4 = .nilIface ∧ F 5 = .pointer (some ⟨B135, 0, none⟩) ∧ (S 0 = true → F 21 = .slice a ms.length c) ∧ (S 1 = true → F 22 = .pointer (some ⟨B101, 1, none⟩)) ∧ (S 2 = true → F 23 = .int .i64 q.run) ∧ (S 3 = true → F 24 = .int .i64 (q.run - 1)) ∧ (S 4 = true → F 25 = .pointer (some ⟨b200, o202, none⟩)) ∧ (S 5 = true → F 26 = .pointer (some ⟨b200, o202 + 5, none⟩)) ∧ (S 6 = true → F 27 = .slice ((mAt ms ((q.run - 1).toNat)).sa) ((mAt ms ((q.run - 1).toNat)).t.slots.length) ((mAt ms ((q.run - 1).toNat)).sc)) ∧ (S 7 = true → F 28 = .pointer (some ⟨B101, 2, none⟩)) ∧ (S 8 = true → F 29 = .int .i64 q.a) ∧ (S 9 = true → F 30 = .pointer (some ⟨b210, o212, none⟩)) ∧ (S 10 = true → F 31 = .agg #[.int .i64 ((rAt (mAt ms ((q.run - 1).toNat)).t.slots ((q.a).toNat)).th), .int .i64 ((rAt (mAt ms ((q.run - 1).toNat)).t.slots ((q.a).toNat)).ve), .bool ((rAt (mAt ms ((q.run - 1).toNat)).t.slots ((q.a).toNat)).rd), .bool ((rAt (mAt ms ((q.run - 1).toNat)).t.slots ((q.a).toNat)).wr), .bool ((rAt (mAt ms ((q.run - 1).toNat)).t.slots ((q.a).toNat)).wk)]) ∧ (S 11 = true → F 6 = .pointer (some ⟨B224, 0, none⟩) ∧ w.heap.size ≤ B224 ∧ Blk w' B224 37 #[.int .i64 0, .int .i64 0, .bool false, .bool false, .bool false] ∧ B101 < B224 ∧ B129 < B224 ∧ B135 < B224 ∧ w140.heap.size ≤ B224)) Zi (by kernel_rfl) ⟨0, Yl _, rfl, rfl, rfl, rfl, fun h => X5 h, fun h => X5 h, fun h => X5 h, fun h => X5 h, fun h => X5 h, fun h => X5 h, fun h => X5 h, fun h => X5 h, fun h => X5 h, fun h => X5 h, fun h => X5 h, fun h => X5 h⟩ ?_ ?_
   ·
    refine X6 (fun S F w229 hS hbef hcl hI => ?_) ?_
    ·
     obtain ⟨B224, hi230, e231, e232, e233, e234, c_0, c_1, c_2, c_3, c_4, c_5, c_6, c_7, c_8, c_9, c_10, c_11⟩ := hI
     have hb235 := low0 hb142 hi230
     refine Xc (v := .slice a ms.length c) e231 rfl ?_
     exact Xa ⟨B224, hi230, e231, e232, e233, e234, fun _ => rfl, c_1, c_2, c_3, fun h => Xx 4 hS hcl rfl h, fun h => Xx 5 hS hcl rfl h, fun h => Xx 6 hS hcl rfl h, c_7, c_8, fun h => Xx 9 hS hcl rfl h, fun h => Xx 10 hS hcl rfl h, c_11⟩
    refine X6 (fun S F w236 hS hbef hcl hI => ?_) ?_
    ·
     obtain ⟨B224, hi237, e238, e239, e240, e241, c_0, c_1, c_2, c_3, c_4, c_5, c_6, c_7, c_8, c_9, c_10, c_11⟩ := hI
     have hb242 := low0 hb142 hi237
     refine Xd (o' := 1) Zk e239 rfl rfl ?_
     exact Xa ⟨B224, hi237, e238, e239, e240, e241, c_0, fun _ => rfl, fun h => Xx 2 hS hcl rfl h, fun h => Xx 3 hS hcl rfl h, fun h => Xx 4 hS hcl rfl h, fun h => Xx 5 hS hcl rfl h, fun h => Xx 6 hS hcl rfl h, c_7, c_8, fun h => Xx 9 hS hcl rfl h, fun h => Xx 10 hS hcl rfl h, c_11⟩
    refine X6 (fun S F w243 hS hbef hcl hI => ?_) ?_
    ·
     obtain ⟨B224, hi244, e245, e246, e247, e248, c_0, c_1, c_2, c_3, c_4, c_5, c_6, c_7, c_8, c_9, c_10, c_11⟩ := hI
     have hb249 := low0 hb142 hi244
     obtain e250 := c_1 (Xo 1 hbef rfl)
     have k251 := (((k138.grown0 hN137.grw).grown hS141.grw (Xf (by omega))).grown0 hi244)
     refine Xi (v := .int .i64 q.run) X3 e250 (k251.cell rfl) rfl ?_
     exact Xa ⟨B224, hi244, e245, e246, e247, e248, c_0, c_1, fun _ => rfl, fun h => Xx 3 hS hcl rfl h, fun h => Xx 4 hS hcl rfl h, fun h => Xx 5 hS hcl rfl h, fun h => Xx 6 hS hcl rfl h, c_7, c_8, fun h => Xx 9 hS hcl rfl h, fun h => Xx 10 hS hcl rfl h, c_11⟩
    refine X6 (fun S F w252 hS hbef hcl hI => ?_) ?_
    ·
     obtain ⟨B224, hi253, e254, e255, e256, e257, c_0, c_1, c_2, c_3, c_4, c_5, c_6, c_7, c_8, c_9, c_10, c_11⟩ := hI
     have hb258 := low0 hb142 hi253
     obtain e259 := c_1 (Xo 1 hbef rfl)
     obtain e260 := c_2 (Xo 2 hbef rfl)
     refine Y3 (c := q.run - 1) e260 rfl (by omega) (by omega) (by omega) rfl ?_
     exact Xa ⟨B224, hi253, e254, e255, e256, e257, c_0, c_1, c_2, fun _ => rfl, fun h => Xx 4 hS hcl rfl h, fun h => Xx 5 hS hcl rfl h, fun h => Xx 6 hS hcl rfl h, c_7, c_8, fun h => Xx 9 hS hcl rfl h, fun h => Xx 10 hS hcl rfl h, c_11⟩
    refine X6 (fun S F w261 hS hbef hcl hI => ?_) ?_
    ·
     obtain ⟨B224, hi262, e263, e264, e265, e266, c_0, c_1, c_2, c_3, c_4, c_5, c_6, c_7, c_8, c_9, c_10, c_11⟩ := hI
     have hb267 := low0 hb142 hi262
     obtain e268 := c_0 (Xo 0 hbef rfl)
     obtain e269 := c_1 (Xo 1 hbef rfl)
     obtain e270 := c_2 (Xo 2 hbef rfl)
     obtain e271 := c_3 (Xo 3 hbef rfl)
     refine Yd Zl e268 e271 ha203 ho204 (by omega) (by omega) rfl ?_
     exact Xa ⟨B224, hi262, e263, e264, e265, e266, c_0, c_1, c_2, c_3, fun _ => rfl, fun h => Xx 5 hS hcl rfl h, fun h => Xx 6 hS hcl rfl h, c_7, c_8, fun h => Xx 9 hS hcl rfl h, fun h => Xx 10 hS hcl rfl h, c_11⟩
    refine X6 (fun S F w272 hS hbef hcl hI => ?_) ?_
    ·
     obtain ⟨B224, hi273, e274, e275, e276, e277, c_0, c_1, c_2, c_3, c_4, c_5, c_6, c_7, c_8, c_9, c_10, c_11⟩ := hI
     have hb278 := low0 hb142 hi273
     obtain e279 := c_0 (Xo 0 hbef rfl)
     obtain e280 := c_1 (Xo 1 hbef rfl)
     obtain e281 := c_2 (Xo 2 hbef rfl)
     obtain e282 := c_3 (Xo 3 hbef rfl)
     obtain e283 := c_4 (Xo 4 hbef rfl)
     refine Xd (o' := o202 + 5) Zt e283 rfl rfl ?_
     exact Xa ⟨B224, hi273, e274, e275, e276, e277, c_0, c_1, c_2, c_3, c_4, fun _ => rfl, fun h => Xx 6 hS hcl rfl h, c_7, c_8, fun h => Xx 9 hS hcl rfl h, fun h => Xx 10 hS hcl rfl h, c_11⟩
    refine X6 (fun S F w284 hS hbef hcl hI => ?_) ?_
    ·
     obtain ⟨B224, hi285, e286, e287, e288, e289, c_0, c_1, c_2, c_3, c_4, c_5, c_6, c_7, c_8, c_9, c_10, c_11⟩ := hI
     have hb290 := low0 hb142 hi285
     obtain e291 := c_0 (Xo 0 hbef rfl)
     obtain e292 := c_1 (Xo 1 hbef rfl)
     obtain e293 := c_2 (Xo 2 hbef rfl)
     obtain e294 := c_3 (Xo 3 hbef rfl)
     obtain e295 := c_4 (Xo 4 hbef rfl)
     obtain e296 := c_5 (Xo 5 hbef rfl)
     refine Xi (v := .slice ((mAt ms ((q.run - 1).toNat)).sa) ((mAt ms ((q.run - 1).toNat)).t.slots.length) ((mAt ms ((q.run - 1).toNat)).sc)) Qq e296 ((Yo hr205 hi285) 5 _ rfl) rfl ?_
     exact Xa ⟨B224, hi285, e286, e287, e288, e289, c_0, c_1, c_2, c_3, c_4, c_5, fun _ => rfl, c_7, c_8, fun h => Xx 9 hS hcl rfl h, fun h => Xx 10 hS hcl rfl h, c_11⟩
    refine X6 (fun S F w297 hS hbef hcl hI => ?_) ?_
    ·
     obtain ⟨B224, hi298, e299, e300, e301, e302, c_0, c_1, c_2, c_3, c_4, c_5, c_6, c_7, c_8, c_9, c_10, c_11⟩ := hI
     have hb303 := low0 hb142 hi298
     refine Xd (o' := 2) Qt e300 rfl rfl ?_
     exact Xa ⟨B224, hi298, e299, e300, e301, e302, c_0, c_1, c_2, c_3, c_4, c_5, c_6, fun _ => rfl, fun h => Xx 8 hS hcl rfl h, fun h => Xx 9 hS hcl rfl h, fun h => Xx 10 hS hcl rfl h, c_11⟩
    refine X6 (fun S F w304 hS hbef hcl hI => ?_) ?_
    ·
     obtain ⟨B224, hi305, e306, e307, e308, e309, c_0, c_1, c_2, c_3, c_4, c_5, c_6, c_7, c_8, c_9, c_10, c_11⟩ := hI
     have hb310 := low0 hb142 hi305
     obtain e311 := c_7 (Xo 7 hbef rfl)
     have k312 := (((k138.grown0 hN137.grw).grown hS141.grw (Xf (by omega))).grown0 hi305)
     refine Xi (v := .int .i64 q.a) X3 e311 (k312.cell rfl) rfl ?_
     exact Xa ⟨B224, hi305, e306, e307, e308, e309, c_0, c_1, c_2, c_3, c_4, c_5, c_6, c_7, fun _ => rfl, fun h => Xx 9 hS hcl rfl h, fun h => Xx 10 hS hcl rfl h, c_11⟩
    refine X6 (fun S F w313 hS hbef hcl hI => ?_) ?_
    ·
     obtain ⟨B224, hi314, e315, e316, e317, e318, c_0, c_1, c_2, c_3, c_4, c_5, c_6, c_7, c_8, c_9, c_10, c_11⟩ := hI
     have hb319 := low0 hb142 hi314
     obtain e320 := c_0 (Xo 0 hbef rfl)
     obtain e321 := c_1 (Xo 1 hbef rfl)
     obtain e322 := c_2 (Xo 2 hbef rfl)
     obtain e323 := c_3 (Xo 3 hbef rfl)
     obtain e324 := c_4 (Xo 4 hbef rfl)
     obtain e325 := c_5 (Xo 5 hbef rfl)
     obtain e326 := c_6 (Xo 6 hbef rfl)
     obtain e327 := c_7 (Xo 7 hbef rfl)
     obtain e328 := c_8 (Xo 8 hbef rfl)
     refine Yd Ka e326 e328 ha213 ho214 (by omega) (by omega) rfl ?_
     exact Xa ⟨B224, hi314, e315, e316, e317, e318, c_0, c_1, c_2, c_3, c_4, c_5, c_6, c_7, c_8, fun _ => rfl, fun h => Xx 10 hS hcl rfl h, c_11⟩
    refine X6 (fun S F w329 hS hbef hcl hI => ?_) ?_
    ·
     obtain ⟨B224, hi330, e331, e332, e333, e334, c_0, c_1, c_2, c_3, c_4, c_5, c_6, c_7, c_8, c_9, c_10, c_11⟩ := hI
     have hb335 := low0 hb142 hi330
     obtain e336 := c_0 (Xo 0 hbef rfl)
     obtain e337 := c_1 (Xo 1 hbef rfl)
     obtain e338 := c_2 (Xo 2 hbef rfl)
     obtain e339 := c_3 (Xo 3 hbef rfl)
     obtain e340 := c_4 (Xo 4 hbef rfl)
     obtain e341 := c_5 (Xo 5 hbef rfl)
     obtain e342 := c_6 (Xo 6 hbef rfl)
     obtain e343 := c_7 (Xo 7 hbef rfl)
     obtain e344 := c_8 (Xo 8 hbef rfl)
     obtain e345 := c_9 (Xo 9 hbef rfl)
     refine Xu (vs := [.int .i64 ((rAt (mAt ms ((q.run - 1).toNat)).t.slots ((q.a).toNat)).th), .int .i64 ((rAt (mAt ms ((q.run - 1).toNat)).t.slots ((q.a).toNat)).ve), .bool ((rAt (mAt ms ((q.run - 1).toNat)).t.slots ((q.a).toNat)).rd), .bool ((rAt (mAt ms ((q.run - 1).toNat)).t.slots ((q.a).toNat)).wr), .bool ((rAt (mAt ms ((q.run - 1).toNat)).t.slots ((q.a).toNat)).wk)]) Y8 e345 rfl (Za (Yo hr215 hi330) 0 5 rfl) rfl ?_
     exact Xa ⟨B224, hi330, e331, e332, e333, e334, c_0, c_1, c_2, c_3, c_4, c_5, c_6, c_7, c_8, c_9, fun _ => rfl, c_11⟩
    refine X6 (fun S F w346 hS hbef hcl hI => ?_) ?_
    ·
     obtain ⟨B224, hi347, e348, e349, e350, e351, c_0, c_1, c_2, c_3, c_4, c_5, c_6, c_7, c_8, c_9, c_10, c_11⟩ := hI
     have hb352 := low0 hb142 hi347
     refine Yj (cs := #[.int .i64 0, .int .i64 0, .bool false, .bool false, .bool false]) J3 rfl rfl ?_
     intro B353 w354 hN355
     have hlB353 := Yf hN355 hb352
     have k356 := (((k138.grown0 hN137.grw).grown hS141.grw (Xf (by omega))).grown0 hi347)
     have lt_B101_B353 := Xq hN355 (k356).lt
     have k357 := (((hSl131.grown0 hN137.grw).grown hS141.grw (Xf (by omega))).grown0 hi347)
     have lt_B129_B353 := Xq hN355 (k357).lt
     have k358 := (hS141.blk.grown0 hi347)
     have lt_B135_B353 := Xq hN355 (k358).lt
     have hb359 := low0 hb352 hN355.grw
     exact Xa ⟨B353, (low0 hi347 hN355.grw), e348, e349, e350, e351, c_0, c_1, c_2, c_3, c_4, c_5, c_6, c_7, c_8, c_9, c_10, fun _ => ⟨rfl, hlB353, hN355.blk, lt_B101_B353, lt_B129_B353, lt_B135_B353, (Nat.le_trans hi347.size (Nat.le_of_eq hN355.eq.symm))⟩⟩
    exact Q5
   ·
    intro S F w360 hall hI
    obtain ⟨B224, hi361, e362, e363, e364, e365, c_0, c_1, c_2, c_3, c_4, c_5, c_6, c_7, c_8, c_9, c_10, c_11⟩ := hI
    have hb366 := low0 hb142 hi361
    obtain e367 := c_0 (hall 0 (by decide))
    obtain e368 := c_1 (hall 1 (by decide))
    obtain e369 := c_2 (hall 2 (by decide))
    obtain e370 := c_3 (hall 3 (by decide))
    obtain e371 := c_4 (hall 4 (by decide))
    obtain e372 := c_5 (hall 5 (by decide))
    obtain e373 := c_6 (hall 6 (by decide))
    obtain e374 := c_7 (hall 7 (by decide))
    obtain e375 := c_8 (hall 8 (by decide))
    obtain e376 := c_9 (hall 9 (by decide))
    obtain e377 := c_10 (hall 10 (by decide))
    obtain ⟨e378, hlB224, kb_B224, lt_B101_B224, lt_B129_B224, lt_B135_B224, hk_B224⟩ := c_11 (hall 11 (by decide))
    refine Xz (vs := [.int .i64 ((rAt (mAt ms ((q.run - 1).toNat)).t.slots ((q.a).toNat)).th), .int .i64 ((rAt (mAt ms ((q.run - 1).toNat)).t.slots ((q.a).toNat)).ve), .bool ((rAt (mAt ms ((q.run - 1).toNat)).t.slots ((q.a).toNat)).rd), .bool ((rAt (mAt ms ((q.run - 1).toNat)).t.slots ((q.a).toNat)).wr), .bool ((rAt (mAt ms ((q.run - 1).toNat)).t.slots ((q.a).toNat)).wk)]) (cs' := #[.int .i64 ((rAt (mAt ms ((q.run - 1).toNat)).t.slots ((q.a).toNat)).th), .int .i64 ((rAt (mAt ms ((q.run - 1).toNat)).t.slots ((q.a).toNat)).ve), .bool ((rAt (mAt ms ((q.run - 1).toNat)).t.slots ((q.a).toNat)).rd), .bool ((rAt (mAt ms ((q.run - 1).toNat)).t.slots ((q.a).toNat)).wr), .bool ((rAt (mAt ms ((q.run - 1).toNat)).t.slots ((q.a).toNat)).wk)]) Y8 e378 e377 rfl (by simp [Value.oneCell']) kb_B224 (Nat.le_of_ble_eq_true rfl) rfl ?_
    intro w379 hS380
    have hb381 := low1 hb366 hS380.grw (by omega)
    refine Xa ?_
    refine Xv ?_
    refine Xt ?_
    refine Q0 (fun f' w' => (f' 0 = .slice a ms.length c ∧ f' 3 = .pointer (some ⟨B101, 0, none⟩) ∧ f' 4 = .nilIface ∧ f' 5 = .pointer (some ⟨B135, 0, none⟩) ∧ f' 6 = .pointer (some ⟨B224, 0, none⟩) ∧ f' 46 = .bool ((decide ((rAt (mAt ms ((q.run - 1).toNat)).t.slots ((q.a).toNat)).th = 0)) || (!kindFor q.kind ((mAt ms ((((rAt (mAt ms ((q.run - 1).toNat)).t.slots ((q.a).toNat)).th) - 1).toNat)).t.kind)))) ∧ w379.grownBy w' none) ?_ ?_
    ·
     rcases Yb (decide ((rAt (mAt ms ((q.run - 1).toNat)).t.slots ((q.a).toNat)).th = 0)) with h396 | h396
     ·
      have h397 := of_decide_eq_true h396
      refine Ze (m := 12) (vals := [(32, .pointer (some ⟨B224, 0, none⟩)), (33, .int .i64 ((rAt (mAt ms ((q.run - 1).toNat)).t.slots ((q.a).toNat)).th)), (34, .bool (decide ((rAt (mAt ms ((q.run - 1).toNat)).t.slots ((q.a).toNat)).th = 0))), (35, .bool (decide ((rAt (mAt ms ((q.run - 1).toNat)).t.slots ((q.a).toNat)).th = 0))), (36, undef), (37, undef), (38, undef), (39, undef), (40, undef), (41, undef), (42, undef), (43, undef)]) (fun w' => w379.grownBy w' none) Zi (by kernel_rfl) (Yl _) ?_ ?_
      ·
       refine Xj rfl (fun w398 hi399 => ?_) ?_
       ·
        have hb400 := low0 hb381 hi399
        refine Xd (o' := 0) Yp e378 rfl rfl ?_
        exact Xa ⟨rfl, hi399⟩
       refine Xj rfl (fun w401 hi402 => ?_) ?_
       ·
        have hb403 := low0 hb381 hi402
        have k404 := (hS380.blk.grown0 hi402)
        refine Xi (v := .int .i64 ((rAt (mAt ms ((q.run - 1).toNat)).t.slots ((q.a).toNat)).th)) X3 rfl (k404.cell rfl) rfl ?_
        exact Xa ⟨rfl, hi402⟩
       refine Xj rfl (fun w405 hi406 => ?_) ?_
       ·
        have hb407 := low0 hb381 hi406
        refine X4 (q := decide ((rAt (mAt ms ((q.run - 1).toNat)).t.slots ((q.a).toNat)).th = 0)) rfl rfl rfl rfl ?_
        exact Xa ⟨rfl, hi406⟩
       refine Xj rfl (fun w408 hi409 => ?_) ?_
       ·
        have hb410 := low0 hb381 hi409
        refine Xc (v := .bool (decide ((rAt (mAt ms ((q.run - 1).toNat)).t.slots ((q.a).toNat)).th = 0))) rfl rfl ?_
        exact Xa ⟨rfl, hi409⟩
       refine Xj rfl (fun w411 hi412 => ?_) ?_
       ·
        have hb413 := low0 hb381 hi412
        refine Xk rfl rfl rfl h396 rfl ?_
        exact Xa ⟨rfl, hi412⟩
       refine Xj rfl (fun w414 hi415 => ?_) ?_
       ·
        have hb416 := low0 hb381 hi415
        refine Xk rfl rfl rfl h396 rfl ?_
        exact Xa ⟨rfl, hi415⟩
       refine Xj rfl (fun w417 hi418 => ?_) ?_
       ·
        have hb419 := low0 hb381 hi418
        refine Xk rfl rfl rfl h396 rfl ?_
        exact Xa ⟨rfl, hi418⟩
       refine Xj rfl (fun w420 hi421 => ?_) ?_
       ·
        have hb422 := low0 hb381 hi421
        refine Xk rfl rfl rfl h396 rfl ?_
        exact Xa ⟨rfl, hi421⟩
       refine Xj rfl (fun w423 hi424 => ?_) ?_
       ·
        have hb425 := low0 hb381 hi424
        refine Xk rfl rfl rfl h396 rfl ?_
        exact Xa ⟨rfl, hi424⟩
       refine Xj rfl (fun w426 hi427 => ?_) ?_
       ·
        have hb428 := low0 hb381 hi427
        refine Xk rfl rfl rfl h396 rfl ?_
        exact Xa ⟨rfl, hi427⟩
       refine Xj rfl (fun w429 hi430 => ?_) ?_
       ·
        have hb431 := low0 hb381 hi430
        refine Xk rfl rfl rfl h396 rfl ?_
        exact Xa ⟨rfl, hi430⟩
       refine Xj rfl (fun w432 hi433 => ?_) ?_
       ·
        have hb434 := low0 hb381 hi433
        refine Xk rfl rfl rfl h396 rfl ?_
        exact Xa ⟨rfl, hi433⟩
       exact Zj
      ·
       intro w435 hi436
       have hb437 := low0 hb381 hi436
       refine Xk rfl rfl rfl h396 rfl ?_
       refine Xk rfl rfl rfl h396 rfl ?_
       refine Xr (v := .bool true) rfl h396 rfl rfl ?_
       exact Xa (Xv ⟨⟨e362, e363, e364, e365, e378, (congrArg Value.bool (by first | (simp only [h108, h116, h125, h396, hT117, hc118, hkd119, b0, b1, b2, b3, b4, b5, b6, b7, b8, b9]; done) | simp [h108, h116, h125, h396, hT117, hc118, hkd119]))⟩, hi436⟩)
     ·
      have h438 := of_decide_eq_false h396
      obtain ⟨b456, q457, o458, ha459, ho460, hr461⟩ := SlAt.at (TabAt.low ht hb381).1 (Yn (Ya (show (((rAt (mAt ms ((q.run - 1).toNat)).t.slots ((q.a).toNat)).th) - 1).toNat < ms.length by omega)))
      have hle462 := TabLen.at hlen (Ya (show (((rAt (mAt ms ((q.run - 1).toNat)).t.slots ((q.a).toNat)).th) - 1).toNat < ms.length by omega))
      refine Ze (m := 12) (vals := [(32, .pointer (some ⟨B224, 0, none⟩)), (33, .int .i64 ((rAt (mAt ms ((q.run - 1).toNat)).t.slots ((q.a).toNat)).th)), (34, .bool (decide ((rAt (mAt ms ((q.run - 1).toNat)).t.slots ((q.a).toNat)).th = 0))), (35, .bool (decide ((rAt (mAt ms ((q.run - 1).toNat)).t.slots ((q.a).toNat)).th = 0))), (36, .agg #[.int .i64 q.kind, .slice (some ⟨B129, 0, none⟩) ((kindsOf q.kind).length) ((kindsOf q.kind).length), .bool (need0 q.kind), .bool (need1 q.kind), .bool (need0 q.kind), .bool (need1 q.kind)]), (37, .slice a ms.length c), (38, .pointer (some ⟨B224, 0, none⟩)), (39, .int .i64 ((rAt (mAt ms ((q.run - 1).toNat)).t.slots ((q.a).toNat)).th)), (40, .int .i64 (((rAt (mAt ms ((q.run - 1).toNat)).t.slots ((q.a).toNat)).th) - 1)), (41, .pointer (some ⟨b456, o458, none⟩)), (42, .pointer (some ⟨b456, o458, none⟩)), (43, .int .i64 ((mAt ms ((((rAt (mAt ms ((q.run - 1).toNat)).t.slots ((q.a).toNat)).th) - 1).toNat)).t.kind))]) (fun w' => w379.grownBy w' none) Zi (by kernel_rfl) (Yl _) ?_ ?_
      ·
       refine Xj rfl (fun w468 hi469 => ?_) ?_
       ·
        have hb470 := low0 hb381 hi469
        refine Xd (o' := 0) Yp e378 rfl rfl ?_
        exact Xa ⟨rfl, hi469⟩
       refine Xj rfl (fun w471 hi472 => ?_) ?_
       ·
        have hb473 := low0 hb381 hi472
        have k474 := (hS380.blk.grown0 hi472)
        refine Xi (v := .int .i64 ((rAt (mAt ms ((q.run - 1).toNat)).t.slots ((q.a).toNat)).th)) X3 rfl (k474.cell rfl) rfl ?_
        exact Xa ⟨rfl, hi472⟩
       refine Xj rfl (fun w475 hi476 => ?_) ?_
       ·
        have hb477 := low0 hb381 hi476
        refine X4 (q := decide ((rAt (mAt ms ((q.run - 1).toNat)).t.slots ((q.a).toNat)).th = 0)) rfl rfl rfl rfl ?_
        exact Xa ⟨rfl, hi476⟩
       refine Xj rfl (fun w478 hi479 => ?_) ?_
       ·
        have hb480 := low0 hb381 hi479
        refine Xc (v := .bool (decide ((rAt (mAt ms ((q.run - 1).toNat)).t.slots ((q.a).toNat)).th = 0))) rfl rfl ?_
        exact Xa ⟨rfl, hi479⟩
       refine Xj rfl (fun w481 hi482 => ?_) ?_
       ·
        have hb483 := low0 hb381 hi482
        refine Xe rfl rfl rfl h396 ?_
        have k484 := (((hS141.blk.grown0 hi361).grown hS380.grw (Xf (by omega))).grown0 hi482)
        refine Xu (vs := [.int .i64 q.kind, .slice (some ⟨B129, 0, none⟩) ((kindsOf q.kind).length) ((kindsOf q.kind).length), .bool (need0 q.kind), .bool (need1 q.kind), .bool (need0 q.kind), .bool (need1 q.kind)]) Zg e365 rfl (k484.rangeL 0 6 rfl) rfl ?_
        exact Xa ⟨rfl, hi482⟩
       refine Xj rfl (fun w485 hi486 => ?_) ?_
       ·
        have hb487 := low0 hb381 hi486
        refine Xe rfl rfl rfl h396 ?_
        refine Xc (v := .slice a ms.length c) e362 rfl ?_
        exact Xa ⟨rfl, hi486⟩
       refine Xj rfl (fun w488 hi489 => ?_) ?_
       ·
        have hb490 := low0 hb381 hi489
        refine Xe rfl rfl rfl h396 ?_
        refine Xd (o' := 0) Yp e378 rfl rfl ?_
        exact Xa ⟨rfl, hi489⟩
       refine Xj rfl (fun w491 hi492 => ?_) ?_
       ·
        have hb493 := low0 hb381 hi492
        refine Xe rfl rfl rfl h396 ?_
        have k494 := (hS380.blk.grown0 hi492)
        refine Xi (v := .int .i64 ((rAt (mAt ms ((q.run - 1).toNat)).t.slots ((q.a).toNat)).th)) X3 rfl (k494.cell rfl) rfl ?_
        exact Xa ⟨rfl, hi492⟩
       refine Xj rfl (fun w495 hi496 => ?_) ?_
       ·
        have hb497 := low0 hb381 hi496
        refine Xe rfl rfl rfl h396 ?_
        refine Y3 (c := ((rAt (mAt ms ((q.run - 1).toNat)).t.slots ((q.a).toNat)).th) - 1) rfl rfl (by omega) (by omega) (by omega) rfl ?_
        exact Xa ⟨rfl, hi496⟩
       refine Xj rfl (fun w498 hi499 => ?_) ?_
       ·
        have hb500 := low0 hb381 hi499
        refine Xe rfl rfl rfl h396 ?_
        refine Yd Zl rfl rfl ha459 ho460 (by omega) (by omega) rfl ?_
        exact Xa ⟨rfl, hi499⟩
       refine Xj rfl (fun w501 hi502 => ?_) ?_
       ·
        have hb503 := low0 hb381 hi502
        refine Xe rfl rfl rfl h396 ?_
        refine Xd (o' := o458) Yt rfl rfl rfl ?_
        exact Xa ⟨rfl, hi502⟩
       refine Xj rfl (fun w504 hi505 => ?_) ?_
       ·
        have hb506 := low0 hb381 hi505
        refine Xe rfl rfl rfl h396 ?_
        refine Xi (v := .int .i64 ((mAt ms ((((rAt (mAt ms ((q.run - 1).toNat)).t.slots ((q.a).toNat)).th) - 1).toNat)).t.kind)) X3 rfl ((Yo hr461 hi505) 0 _ rfl) rfl ?_
        exact Xa ⟨rfl, hi505⟩
       exact Zj
      ·
       intro w507 hi508
       have hb509 := low0 hb381 hi508
       refine Xe rfl rfl rfl h396 ?_
       have k510 := (((((hSl131.grown0 hN137.grw).grown hS141.grw (Xf (by omega))).grown0 hi361).grown hS380.grw (Xf (by omega))).grown0 hi508)
       refine Xn (vs := [.agg #[.int .i64 q.kind, .slice (some ⟨B129, 0, none⟩) ((kindsOf q.kind).length) ((kindsOf q.kind).length), .bool (need0 q.kind), .bool (need1 q.kind), .bool (need0 q.kind), .bool (need1 q.kind)], .int .i64 ((mAt ms ((((rAt (mAt ms ((q.run - 1).toNat)).t.slots ((q.a).toNat)).th) - 1).toNat)).t.kind)]) Mx (Xg rfl (Xg rfl Xm)) rfl (Ng q.kind ((mAt ms ((((rAt (mAt ms ((q.run - 1).toNat)).t.slots ((q.a).toNat)).th) - 1).toNat)).t.kind) (need0 q.kind) (need1 q.kind) (need0 q.kind) (need1 q.kind) _ (kindsOf q.kind) _ _ (Qf Ys k510) (by exact Nat.le_trans Nt (by decide))) ?_
       rintro _ w511 ⟨rfl, hg512⟩
       have hb513 := low0 hb509 hg512
       refine Xe rfl rfl rfl h396 ?_
       refine Yk (b' := !kindFor q.kind ((mAt ms ((((rAt (mAt ms ((q.run - 1).toNat)).t.slots ((q.a).toNat)).th) - 1).toNat)).t.kind)) (congrArg Value.bool (Pg q.kind ((mAt ms ((((rAt (mAt ms ((q.run - 1).toNat)).t.slots ((q.a).toNat)).th) - 1).toNat)).t.kind))) rfl rfl ?_
       refine Xl (v := .bool (!kindFor q.kind ((mAt ms ((((rAt (mAt ms ((q.run - 1).toNat)).t.slots ((q.a).toNat)).th) - 1).toNat)).t.kind))) rfl h396 rfl rfl ?_
       exact Xa (Xv ⟨⟨e362, e363, e364, e365, e378, (congrArg Value.bool (by first | (simp only [h108, h116, h125, h396, hT117, hc118, hkd119, b0, b1, b2, b3, b4, b5, b6, b7, b8, b9]; done) | simp [h108, h116, h125, h396, hT117, hc118, hkd119]))⟩, (grown_trans hi508 hg512)⟩)
    ·
     rintro f514 w515 ⟨⟨e516, e517, e518, e519, e520, e521⟩, hg522⟩
     have hb523 := low0 hb381 hg522
     refine Xw e521 (fun h524 => ?_) (fun h524 => ?_)
     ·
      refine Xb ?_
      refine Yw (ps := [(0, .int .i64 (-1))]) (v := .agg #[.int .i64 (-1)]) (Xp rfl X9) (by kernel_rfl) rfl ?_
      refine Yu (v := .agg #[.int .i64 (-1)]) (cs := #[.int .i64 (-1)]) rfl rfl rfl ?_
      intro B525 w526 hN527
      have hlB525 := Yf hN527 hb523
      have k528 := (((((k138.grown0 hN137.grw).grown hS141.grw (Xf (by omega))).grown0 hi361).grown hS380.grw (Xf (by omega))).grown0 hg522)
      have lt_B101_B525 := Xq hN527 (k528).lt
      have k529 := (((((hSl131.grown0 hN137.grw).grown hS141.grw (Xf (by omega))).grown0 hi361).grown hS380.grw (Xf (by omega))).grown0 hg522)
      have lt_B129_B525 := Xq hN527 (k529).lt
      have k530 := (((hS141.blk.grown0 hi361).grown hS380.grw (Xf (by omega))).grown0 hg522)
      have lt_B135_B525 := Xq hN527 (k530).lt
      have k531 := (hS380.blk.grown0 hg522)
      have lt_B224_B525 := Xq hN527 (k531).lt
      have hb532 := low0 hb523 hN527.grw
      refine Je (v := .pointer (some ⟨B525, 0, none⟩)) (by kernel_rfl) rfl rfl ?_
      refine Xh (v := .iface 58 (.pointer (some ⟨B525, 0, none⟩))) rfl rfl ?_
      refine Xa ?_
      refine Xs ?_
      refine Yi ?_
      have hck533 : chkAll (tabT ms) q = -1 := (Z3 h116).trans (Gh h125 (Tl h524)).symm
      refine ⟨.iface 58 (.pointer (some ⟨B525, 0, none⟩)), Yq rfl rfl, Or.inr ⟨B525, ⟨by rw [hck533]; decide, rfl⟩, hlB525, ?_⟩, hb532⟩
      rw [hck533]; exact hN527.blk
     ·
      have h534 := Qx h524
      have h535 := of_decide_eq_false h534
      have h536 := Qy h524
      have h537 := Zh h536
      refine Xy ?_
      refine Xv ?_
      refine Xt ?_
      refine X2 (fun f' w' => (f' 0 = .slice a ms.length c ∧ f' 3 = .pointer (some ⟨B101, 0, none⟩) ∧ f' 4 = .nilIface ∧ f' 5 = .pointer (some ⟨B135, 0, none⟩) ∧ f' 6 = .pointer (some ⟨B224, 0, none⟩) ∧ f' 65 = .bool ((need0 q.kind && (!(rAt (mAt ms ((q.run - 1).toNat)).t.slots ((q.a).toNat)).rd)) || (need1 q.kind && (!(rAt (mAt ms ((q.run - 1).toNat)).t.slots ((q.a).toNat)).wr)))) ∧ w515 = w') ?_ ?_
      ·
       refine Xd (o' := 2) Rj e519 rfl rfl ?_
       have k541 := (((hS141.blk.grown0 hi361).grown hS380.grw (Xf (by omega))).grown0 hg522)
       refine Xi (v := .bool (need0 q.kind)) Zv rfl (k541.cell rfl) rfl ?_
       refine Xc (v := .bool (need0 q.kind)) rfl rfl ?_
       rcases Yb (need0 q.kind) with h542 | h542
       ·
        refine Xe rfl rfl rfl h542 ?_
        refine Xd (o' := 2) Jj e520 rfl rfl ?_
        refine Xe rfl rfl rfl h542 ?_
        have k543 := (hS380.blk.grown0 hg522)
        refine Xi (v := .bool ((rAt (mAt ms ((q.run - 1).toNat)).t.slots ((q.a).toNat)).rd)) Zv rfl (k543.cell rfl) rfl ?_
        refine Xe rfl rfl rfl h542 ?_
        refine Yk (b' := !(rAt (mAt ms ((q.run - 1).toNat)).t.slots ((q.a).toNat)).rd) rfl rfl rfl ?_
        refine Xr (v := .bool (!(rAt (mAt ms ((q.run - 1).toNat)).t.slots ((q.a).toNat)).rd)) rfl h542 rfl rfl ?_
        refine Xc (v := .bool (!(rAt (mAt ms ((q.run - 1).toNat)).t.slots ((q.a).toNat)).rd)) rfl rfl ?_
        rcases Yb (!(rAt (mAt ms ((q.run - 1).toNat)).t.slots ((q.a).toNat)).rd) with h544 | h544
        ·
         have h545 := Zn h544
         iterate 3 refine Xk rfl rfl rfl h544 rfl ?_
         iterate 3 refine Yg rfl rfl rfl rfl ?_
         refine Xk rfl rfl rfl h544 rfl ?_
         refine Xr (v := .bool true) rfl h544 rfl rfl ?_
         exact Xa ⟨⟨e516, e517, e518, e519, e520, (congrArg Value.bool (by first | (simp only [h108, h116, h125, h524, h534, h536, h537, h542, h544, h545, hT117, hc118, hkd119, b0, b1, b2, b3, b4, b5, b6, b7, b8, b9]; done) | simp [h108, h116, h125, h524, h534, h536, h537, h542, h544, h545, hT117, hc118, hkd119]))⟩, rfl⟩
        ·
         have h546 := Zh h544
         refine Xe rfl rfl rfl h544 ?_
         refine Xd (o' := 3) He e519 rfl rfl ?_
         refine Xe rfl rfl rfl h544 ?_
         refine Xi (v := .bool (need1 q.kind)) Zv rfl (k541.cell rfl) rfl ?_
         refine Xe rfl rfl rfl h544 ?_
         refine Xc (v := .bool (need1 q.kind)) rfl rfl ?_
         rcases Yb (need1 q.kind) with h547 | h547
         ·
          refine Xe rfl rfl rfl h547 ?_
          refine Xd (o' := 3) Qv e520 rfl rfl ?_
          refine Xe rfl rfl rfl h547 ?_
          refine Xi (v := .bool ((rAt (mAt ms ((q.run - 1).toNat)).t.slots ((q.a).toNat)).wr)) Zv rfl (k543.cell rfl) rfl ?_
          refine Xe rfl rfl rfl h547 ?_
          refine Yk (b' := !(rAt (mAt ms ((q.run - 1).toNat)).t.slots ((q.a).toNat)).wr) rfl rfl rfl ?_
          refine Xe rfl rfl rfl h544 ?_
          refine Xr (v := .bool (!(rAt (mAt ms ((q.run - 1).toNat)).t.slots ((q.a).toNat)).wr)) rfl h547 rfl rfl ?_
          refine Xl (v := .bool (!(rAt (mAt ms ((q.run - 1).toNat)).t.slots ((q.a).toNat)).wr)) rfl h544 rfl rfl ?_
          exact Xa ⟨⟨e516, e517, e518, e519, e520, (congrArg Value.bool (by first | (simp only [h108, h116, h125, h524, h534, h536, h537, h542, h544, h546, h547, hT117, hc118, hkd119, b0, b1, b2, b3, b4, b5, b6, b7, b8, b9]; done) | simp [h108, h116, h125, h524, h534, h536, h537, h542, h544, h546, h547, hT117, hc118, hkd119]))⟩, rfl⟩
         ·
          iterate 3 refine Xk rfl rfl rfl h547 rfl ?_
          refine Xe rfl rfl rfl h544 ?_
          refine Xl (v := .bool false) rfl h547 rfl rfl ?_
          refine Xl (v := .bool false) rfl h544 rfl rfl ?_
          exact Xa ⟨⟨e516, e517, e518, e519, e520, (congrArg Value.bool (by first | (simp only [h108, h116, h125, h524, h534, h536, h537, h542, h544, h546, h547, hT117, hc118, hkd119, b0, b1, b2, b3, b4, b5, b6, b7, b8, b9]; done) | simp [h108, h116, h125, h524, h534, h536, h537, h542, h544, h546, h547, hT117, hc118, hkd119]))⟩, rfl⟩
       ·
        iterate 3 refine Xk rfl rfl rfl h542 rfl ?_
        refine Xl (v := .bool false) rfl h542 rfl rfl ?_
        refine Xc (v := .bool false) rfl rfl ?_
        refine Xe rfl rfl rfl rfl ?_
        refine Xd (o' := 3) He e519 rfl rfl ?_
        refine Xe rfl rfl rfl rfl ?_
        refine Xi (v := .bool (need1 q.kind)) Zv rfl (k541.cell rfl) rfl ?_
        refine Xe rfl rfl rfl rfl ?_
        refine Xc (v := .bool (need1 q.kind)) rfl rfl ?_
        rcases Yb (need1 q.kind) with h548 | h548
        ·
         refine Xe rfl rfl rfl h548 ?_
         refine Xd (o' := 3) Qv e520 rfl rfl ?_
         refine Xe rfl rfl rfl h548 ?_
         have k549 := (hS380.blk.grown0 hg522)
         refine Xi (v := .bool ((rAt (mAt ms ((q.run - 1).toNat)).t.slots ((q.a).toNat)).wr)) Zv rfl (k549.cell rfl) rfl ?_
         refine Xe rfl rfl rfl h548 ?_
         refine Yk (b' := !(rAt (mAt ms ((q.run - 1).toNat)).t.slots ((q.a).toNat)).wr) rfl rfl rfl ?_
         refine Xe rfl rfl rfl rfl ?_
         refine Xr (v := .bool (!(rAt (mAt ms ((q.run - 1).toNat)).t.slots ((q.a).toNat)).wr)) rfl h548 rfl rfl ?_
         refine Xl (v := .bool (!(rAt (mAt ms ((q.run - 1).toNat)).t.slots ((q.a).toNat)).wr)) rfl rfl rfl rfl ?_
         exact Xa ⟨⟨e516, e517, e518, e519, e520, (congrArg Value.bool (by first | (simp only [h108, h116, h125, h524, h534, h536, h537, h542, h548, hT117, hc118, hkd119, b0, b1, b2, b3, b4, b5, b6, b7, b8, b9]; done) | simp [h108, h116, h125, h524, h534, h536, h537, h542, h548, hT117, hc118, hkd119]))⟩, rfl⟩
        ·
         iterate 3 refine Xk rfl rfl rfl h548 rfl ?_
         refine Xe rfl rfl rfl rfl ?_
         refine Xl (v := .bool false) rfl h548 rfl rfl ?_
         refine Xl (v := .bool false) rfl rfl rfl rfl ?_
         exact Xa ⟨⟨e516, e517, e518, e519, e520, (congrArg Value.bool (by first | (simp only [h108, h116, h125, h524, h534, h536, h537, h542, h548, hT117, hc118, hkd119, b0, b1, b2, b3, b4, b5, b6, b7, b8, b9]; done) | simp [h108, h116, h125, h524, h534, h536, h537, h542, h548, hT117, hc118, hkd119]))⟩, rfl⟩
      ·
       rintro f550 w551 ⟨⟨e552, e553, e554, e555, e556, e557⟩, rfl⟩
       refine Xw e557 (fun h558 => ?_) (fun h558 => ?_)
       ·
        refine Xb ?_
        refine Yw (ps := [(0, .int .i64 (-1))]) (v := .agg #[.int .i64 (-1)]) (Xp rfl X9) (by kernel_rfl) rfl ?_
        refine Yu (v := .agg #[.int .i64 (-1)]) (cs := #[.int .i64 (-1)]) rfl rfl rfl ?_
        intro B559 w560 hN561
        have hlB559 := Yf hN561 hb523
        have k562 := (((((k138.grown0 hN137.grw).grown hS141.grw (Xf (by omega))).grown0 hi361).grown hS380.grw (Xf (by omega))).grown0 hg522)
        have lt_B101_B559 := Xq hN561 (k562).lt
        have k563 := (((((hSl131.grown0 hN137.grw).grown hS141.grw (Xf (by omega))).grown0 hi361).grown hS380.grw (Xf (by omega))).grown0 hg522)
        have lt_B129_B559 := Xq hN561 (k563).lt
        have k564 := (((hS141.blk.grown0 hi361).grown hS380.grw (Xf (by omega))).grown0 hg522)
        have lt_B135_B559 := Xq hN561 (k564).lt
        have k565 := (hS380.blk.grown0 hg522)
        have lt_B224_B559 := Xq hN561 (k565).lt
        have hb566 := low0 hb523 hN561.grw
        refine Je (v := .pointer (some ⟨B559, 0, none⟩)) (by kernel_rfl) rfl rfl ?_
        refine Xh (v := .iface 58 (.pointer (some ⟨B559, 0, none⟩))) rfl rfl ?_
        refine Xa ?_
        refine Xs ?_
        refine Yi ?_
        have hck567 : chkAll (tabT ms) q = -1 := (Z3 h116).trans (Gh h125 (To h524 h558)).symm
        refine ⟨.iface 58 (.pointer (some ⟨B559, 0, none⟩)), Yq rfl rfl, Or.inr ⟨B559, ⟨by rw [hck567]; decide, rfl⟩, hlB559, ?_⟩, hb566⟩
        rw [hck567]; exact hN561.blk
       ·
        have h568 := Qx h558
        have h569 := Qy h558
        refine Xy ?_
        refine Xv ?_
        refine Xb ?_
        refine Xc (v := .slice a ms.length c) e552 rfl ?_
        refine Xd (o' := 1) Zk e553 rfl rfl ?_
        have k570 := (((((k138.grown0 hN137.grw).grown hS141.grw (Xf (by omega))).grown0 hi361).grown hS380.grw (Xf (by omega))).grown0 hg522)
        refine Xi (v := .int .i64 q.run) X3 rfl (k570.cell rfl) rfl ?_
        refine Xd (o' := 0) Yp e556 rfl rfl ?_
        have k571 := (hS380.blk.grown0 hg522)
        refine Xi (v := .int .i64 ((rAt (mAt ms ((q.run - 1).toNat)).t.slots ((q.a).toNat)).th)) X3 rfl (k571.cell rfl) rfl ?_
        refine Xn (vs := [.slice a ms.length c, .int .i64 q.run, .int .i64 ((rAt (mAt ms ((q.run - 1).toNat)).t.slots ((q.a).toNat)).th)]) Sz (Xg rfl (Xg rfl (Xg rfl Xm))) rfl (Vz q.run ((rAt (mAt ms ((q.run - 1).toNat)).t.slots ((q.a).toNat)).th) _ ms _ _ (TabAt.low ht hb523) hlen (by omega) hT117 (by omega) (by omega)) ?_
        rintro _ w572 ⟨rfl, hg573⟩
        have hb574 := low0 hb523 hg573
        refine Xh (v := .bool (sees (tabT ms) q.run ((rAt (mAt ms ((q.run - 1).toNat)).t.slots ((q.a).toNat)).th))) rfl rfl ?_
        refine Xa ?_
        refine Xt ?_
        refine X2 (fun f' w' => (f' 0 = .slice a ms.length c ∧ f' 4 = .nilIface ∧ f' 6 = .pointer (some ⟨B224, 0, none⟩) ∧ f' 7 = .bool (sees (tabT ms) q.run ((rAt (mAt ms ((q.run - 1).toNat)).t.slots ((q.a).toNat)).th)) ∧ f' 93 = .bool ((need0 q.kind && (!sees (tabT ms) q.run ((rAt (mAt ms ((q.run - 1).toNat)).t.slots ((q.a).toNat)).th))) || (need1 q.kind && (!touches (tabT ms) q.run ((rAt (mAt ms ((q.run - 1).toNat)).t.slots ((q.a).toNat)).th))))) ∧ w572.grownBy w' none) ?_ ?_
        ·
         refine Xd (o' := 4) N7 e555 rfl rfl ?_
         have k582 := ((((hS141.blk.grown0 hi361).grown hS380.grw (Xf (by omega))).grown0 hg522).grown0 hg573)
         refine Xi (v := .bool (need0 q.kind)) Zv rfl (k582.cell rfl) rfl ?_
         refine Xc (v := .bool (need0 q.kind)) rfl rfl ?_
         rcases Yb (need0 q.kind) with h583 | h583
         ·
          refine Xe rfl rfl rfl h583 ?_
          refine Xc (v := .bool (sees (tabT ms) q.run ((rAt (mAt ms ((q.run - 1).toNat)).t.slots ((q.a).toNat)).th))) rfl rfl ?_
          refine Xe rfl rfl rfl h583 ?_
          refine Yk (b' := !sees (tabT ms) q.run ((rAt (mAt ms ((q.run - 1).toNat)).t.slots ((q.a).toNat)).th)) rfl rfl rfl ?_
          refine Xr (v := .bool (!sees (tabT ms) q.run ((rAt (mAt ms ((q.run - 1).toNat)).t.slots ((q.a).toNat)).th))) rfl h583 rfl rfl ?_
          refine Xc (v := .bool (!sees (tabT ms) q.run ((rAt (mAt ms ((q.run - 1).toNat)).t.slots ((q.a).toNat)).th))) rfl rfl ?_
          rcases Yb (!sees (tabT ms) q.run ((rAt (mAt ms ((q.run - 1).toNat)).t.slots ((q.a).toNat)).th)) with h584 | h584
          ·
           have h585 := Zn h584
           iterate 3 refine Xk rfl rfl rfl h584 rfl ?_
           iterate 7 refine Yg rfl rfl rfl rfl ?_
           refine Xk rfl rfl rfl h584 rfl ?_
           refine Xr (v := .bool true) rfl h584 rfl rfl ?_
           exact Xa ⟨⟨e552, e554, e556, rfl, (congrArg Value.bool (by first | (simp only [h108, h116, h125, h524, h534, h536, h537, h558, h568, h569, h583, h584, h585, hT117, hc118, hkd119, b0, b1, b2, b3, b4, b5, b6, b7, b8, b9]; done) | simp [h108, h116, h125, h524, h534, h536, h537, h558, h568, h569, h583, h584, h585, hT117, hc118, hkd119]))⟩, (World.grownBy.refl _ _)⟩
          ·
           have h586 := Zh h584
           refine Xe rfl rfl rfl h584 ?_
           refine Xd (o' := 5) Hc e555 rfl rfl ?_
           refine Xe rfl rfl rfl h584 ?_
           refine Xi (v := .bool (need1 q.kind)) Zv rfl (k582.cell rfl) rfl ?_
           refine Xe rfl rfl rfl h584 ?_
           refine Xc (v := .bool (need1 q.kind)) rfl rfl ?_
           rcases Yb (need1 q.kind) with h587 | h587
           ·
            refine Xe rfl rfl rfl h587 ?_
            refine Xc (v := .slice a ms.length c) e552 rfl ?_
            refine Xe rfl rfl rfl h587 ?_
            refine Xd (o' := 1) Zk e553 rfl rfl ?_
            refine Xe rfl rfl rfl h587 ?_
            have k588 := (k570.grown0 hg573)
            refine Xi (v := .int .i64 q.run) X3 rfl (k588.cell rfl) rfl ?_
            refine Xe rfl rfl rfl h587 ?_
            refine Xd (o' := 0) Yp e556 rfl rfl ?_
            refine Xe rfl rfl rfl h587 ?_
            have k589 := (k571.grown0 hg573)
            refine Xi (v := .int .i64 ((rAt (mAt ms ((q.run - 1).toNat)).t.slots ((q.a).toNat)).th)) X3 rfl (k589.cell rfl) rfl ?_
            refine Xe rfl rfl rfl h587 ?_
            refine Xn (vs := [.slice a ms.length c, .int .i64 q.run, .int .i64 ((rAt (mAt ms ((q.run - 1).toNat)).t.slots ((q.a).toNat)).th)]) Ri (Xg rfl (Xg rfl (Xg rfl Xm))) rfl (J1 q.run ((rAt (mAt ms ((q.run - 1).toNat)).t.slots ((q.a).toNat)).th) _ ms _ _ (TabAt.low ht hb574) hlen (by omega) hT117 (by omega) (by omega)) ?_
            rintro _ w590 ⟨rfl, hg591⟩
            have hb592 := low0 hb574 hg591
            refine Xe rfl rfl rfl h587 ?_
            refine Yk (b' := !touches (tabT ms) q.run ((rAt (mAt ms ((q.run - 1).toNat)).t.slots ((q.a).toNat)).th)) rfl rfl rfl ?_
            refine Xe rfl rfl rfl h584 ?_
            refine Xr (v := .bool (!touches (tabT ms) q.run ((rAt (mAt ms ((q.run - 1).toNat)).t.slots ((q.a).toNat)).th))) rfl h587 rfl rfl ?_
            refine Xl (v := .bool (!touches (tabT ms) q.run ((rAt (mAt ms ((q.run - 1).toNat)).t.slots ((q.a).toNat)).th))) rfl h584 rfl rfl ?_
            exact Xa ⟨⟨e552, e554, e556, rfl, (congrArg Value.bool (by first | (simp only [h108, h116, h125, h524, h534, h536, h537, h558, h568, h569, h583, h584, h586, h587, hT117, hc118, hkd119, b0, b1, b2, b3, b4, b5, b6, b7, b8, b9]; done) | simp [h108, h116, h125, h524, h534, h536, h537, h558, h568, h569, h583, h584, h586, h587, hT117, hc118, hkd119]))⟩, hg591⟩
           ·
            iterate 7 refine Xk rfl rfl rfl h587 rfl ?_
            refine Xe rfl rfl rfl h584 ?_
            refine Xl (v := .bool false) rfl h587 rfl rfl ?_
            refine Xl (v := .bool false) rfl h584 rfl rfl ?_
            exact Xa ⟨⟨e552, e554, e556, rfl, (congrArg Value.bool (by first | (simp only [h108, h116, h125, h524, h534, h536, h537, h558, h568, h569, h583, h584, h586, h587, hT117, hc118, hkd119, b0, b1, b2, b3, b4, b5, b6, b7, b8, b9]; done) | simp [h108, h116, h125, h524, h534, h536, h537, h558, h568, h569, h583, h584, h586, h587, hT117, hc118, hkd119]))⟩, (World.grownBy.refl _ _)⟩
         ·
          refine Xk rfl rfl rfl h583 rfl ?_
          refine Xk rfl rfl rfl h583 rfl ?_
          refine Xl (v := .bool false) rfl h583 rfl rfl ?_
          refine Xc (v := .bool false) rfl rfl ?_
          refine Xe rfl rfl rfl rfl ?_
          refine Xd (o' := 5) Hc e555 rfl rfl ?_
          refine Xe rfl rfl rfl rfl ?_
          refine Xi (v := .bool (need1 q.kind)) Zv rfl (k582.cell rfl) rfl ?_
          refine Xe rfl rfl rfl rfl ?_
          refine Xc (v := .bool (need1 q.kind)) rfl rfl ?_
          rcases Yb (need1 q.kind) with h593 | h593
          ·
           refine Xe rfl rfl rfl h593 ?_
           refine Xc (v := .slice a ms.length c) e552 rfl ?_
           refine Xe rfl rfl rfl h593 ?_
           refine Xd (o' := 1) Zk e553 rfl rfl ?_
           refine Xe rfl rfl rfl h593 ?_
           have k594 := (k570.grown0 hg573)
           refine Xi (v := .int .i64 q.run) X3 rfl (k594.cell rfl) rfl ?_
           refine Xe rfl rfl rfl h593 ?_
           refine Xd (o' := 0) Yp e556 rfl rfl ?_
           refine Xe rfl rfl rfl h593 ?_
           have k595 := (k571.grown0 hg573)
           refine Xi (v := .int .i64 ((rAt (mAt ms ((q.run - 1).toNat)).t.slots ((q.a).toNat)).th)) X3 rfl (k595.cell rfl) rfl ?_
           refine Xe rfl rfl rfl h593 ?_
           refine Xn (vs := [.slice a ms.length c, .int .i64 q.run, .int .i64 ((rAt (mAt ms ((q.run - 1).toNat)).t.slots ((q.a).toNat)).th)]) Ri (Xg rfl (Xg rfl (Xg rfl Xm))) rfl (J1 q.run ((rAt (mAt ms ((q.run - 1).toNat)).t.slots ((q.a).toNat)).th) _ ms _ _ (TabAt.low ht hb574) hlen (by omega) hT117 (by omega) (by omega)) ?_
           rintro _ w596 ⟨rfl, hg597⟩
           have hb598 := low0 hb574 hg597
           refine Xe rfl rfl rfl h593 ?_
           refine Yk (b' := !touches (tabT ms) q.run ((rAt (mAt ms ((q.run - 1).toNat)).t.slots ((q.a).toNat)).th)) rfl rfl rfl ?_
           refine Xe rfl rfl rfl rfl ?_
           refine Xr (v := .bool (!touches (tabT ms) q.run ((rAt (mAt ms ((q.run - 1).toNat)).t.slots ((q.a).toNat)).th))) rfl h593 rfl rfl ?_
           refine Xl (v := .bool (!touches (tabT ms) q.run ((rAt (mAt ms ((q.run - 1).toNat)).t.slots ((q.a).toNat)).th))) rfl rfl rfl rfl ?_
           exact Xa ⟨⟨e552, e554, e556, rfl, (congrArg Value.bool (by first | (simp only [h108, h116, h125, h524, h534, h536, h537, h558, h568, h569, h583, h593, hT117, hc118, hkd119, b0, b1, b2, b3, b4, b5, b6, b7, b8, b9]; done) | simp [h108, h116, h125, h524, h534, h536, h537, h558, h568, h569, h583, h593, hT117, hc118, hkd119]))⟩, hg597⟩
          ·
           iterate 7 refine Xk rfl rfl rfl h593 rfl ?_
           refine Xe rfl rfl rfl rfl ?_
           refine Xl (v := .bool false) rfl h593 rfl rfl ?_
           refine Xl (v := .bool false) rfl rfl rfl rfl ?_
           exact Xa ⟨⟨e552, e554, e556, rfl, (congrArg Value.bool (by first | (simp only [h108, h116, h125, h524, h534, h536, h537, h558, h568, h569, h583, h593, hT117, hc118, hkd119, b0, b1, b2, b3, b4, b5, b6, b7, b8, b9]; done) | simp [h108, h116, h125, h524, h534, h536, h537, h558, h568, h569, h583, h593, hT117, hc118, hkd119]))⟩, (World.grownBy.refl _ _)⟩
        ·
         rintro f599 w600 ⟨⟨e601, e602, e603, e604, e605⟩, hg606⟩
         have hb607 := low0 hb574 hg606
         refine Xw e605 (fun h608 => ?_) (fun h608 => ?_)
         ·
          refine Xb ?_
          refine Yw (ps := [(0, .int .i64 (-2))]) (v := .agg #[.int .i64 (-2)]) (Xp rfl X9) (by kernel_rfl) rfl ?_
          refine Yu (v := .agg #[.int .i64 (-2)]) (cs := #[.int .i64 (-2)]) rfl rfl rfl ?_
          intro B609 w610 hN611
          have hlB609 := Yf hN611 hb607
          have k612 := ((k570.grown0 hg573).grown0 hg606)
          have lt_B101_B609 := Xq hN611 (k612).lt
          have k613 := (((((((hSl131.grown0 hN137.grw).grown hS141.grw (Xf (by omega))).grown0 hi361).grown hS380.grw (Xf (by omega))).grown0 hg522).grown0 hg573).grown0 hg606)
          have lt_B129_B609 := Xq hN611 (k613).lt
          have k614 := (((((hS141.blk.grown0 hi361).grown hS380.grw (Xf (by omega))).grown0 hg522).grown0 hg573).grown0 hg606)
          have lt_B135_B609 := Xq hN611 (k614).lt
          have k615 := ((k571.grown0 hg573).grown0 hg606)
          have lt_B224_B609 := Xq hN611 (k615).lt
          have hb616 := low0 hb607 hN611.grw
          refine Je (v := .pointer (some ⟨B609, 0, none⟩)) (by kernel_rfl) rfl rfl ?_
          refine Xh (v := .iface 58 (.pointer (some ⟨B609, 0, none⟩))) rfl rfl ?_
          refine Xa ?_
          refine Xs ?_
          refine Yi ?_
          have hck617 : chkAll (tabT ms) q = -2 := (Z3 h116).trans (Lv h125 (Ld h524 h558) h608).symm
          refine ⟨.iface 58 (.pointer (some ⟨B609, 0, none⟩)), Yq rfl rfl, Or.inr ⟨B609, ⟨by rw [hck617]; decide, rfl⟩, hlB609, ?_⟩, hb616⟩
          rw [hck617]; exact hN611.blk
         ·
          have h618 := Qx h608
          have h619 := Qy h608
          refine Xy ?_
          refine Xv ?_
          refine Xt ?_
          refine X2 (fun f' w' => (f' 4 = .nilIface ∧ f' 103 = .bool (sees (tabT ms) q.run ((rAt (mAt ms ((q.run - 1).toNat)).t.slots ((q.a).toNat)).th) && (!live (tabT ms) (rAt (mAt ms ((q.run - 1).toNat)).t.slots ((q.a).toNat))))) ∧ w600.grownBy w' none) ?_ ?_
          ·
           refine Xc (v := .bool (sees (tabT ms) q.run ((rAt (mAt ms ((q.run - 1).toNat)).t.slots ((q.a).toNat)).th))) e604 rfl ?_
           refine Xc (v := .bool (sees (tabT ms) q.run ((rAt (mAt ms ((q.run - 1).toNat)).t.slots ((q.a).toNat)).th))) rfl rfl ?_
           rcases Yb (sees (tabT ms) q.run ((rAt (mAt ms ((q.run - 1).toNat)).t.slots ((q.a).toNat)).th)) with h624 | h624
           ·
            refine Xe rfl rfl rfl h624 ?_
            refine Xc (v := .slice a ms.length c) e601 rfl ?_
            refine Xe rfl rfl rfl h624 ?_
            have k625 := ((k571.grown0 hg573).grown0 hg606)
            refine Xu (vs := [.int .i64 ((rAt (mAt ms ((q.run - 1).toNat)).t.slots ((q.a).toNat)).th), .int .i64 ((rAt (mAt ms ((q.run - 1).toNat)).t.slots ((q.a).toNat)).ve), .bool ((rAt (mAt ms ((q.run - 1).toNat)).t.slots ((q.a).toNat)).rd), .bool ((rAt (mAt ms ((q.run - 1).toNat)).t.slots ((q.a).toNat)).wr), .bool ((rAt (mAt ms ((q.run - 1).toNat)).t.slots ((q.a).toNat)).wk)]) Y8 e603 rfl (k625.rangeL 0 5 rfl) rfl ?_
            refine Xe rfl rfl rfl h624 ?_
            refine Xn (vs := [.slice a ms.length c, .agg #[.int .i64 ((rAt (mAt ms ((q.run - 1).toNat)).t.slots ((q.a).toNat)).th), .int .i64 ((rAt (mAt ms ((q.run - 1).toNat)).t.slots ((q.a).toNat)).ve), .bool ((rAt (mAt ms ((q.run - 1).toNat)).t.slots ((q.a).toNat)).rd), .bool ((rAt (mAt ms ((q.run - 1).toNat)).t.slots ((q.a).toNat)).wr), .bool ((rAt (mAt ms ((q.run - 1).toNat)).t.slots ((q.a).toNat)).wk)]]) Tc (Xg rfl (Xg rfl Xm)) rfl (V1 (rAt (mAt ms ((q.run - 1).toNat)).t.slots ((q.a).toNat)) (by omega) _ ms _ _ (TabAt.low ht hb607) hlen (by omega)) ?_
            rintro _ w626 ⟨rfl, hg627⟩
            have hb628 := low0 hb607 hg627
            refine Xe rfl rfl rfl h624 ?_
            refine Yk (b' := !live (tabT ms) (rAt (mAt ms ((q.run - 1).toNat)).t.slots ((q.a).toNat))) rfl rfl rfl ?_
            refine Xr (v := .bool (!live (tabT ms) (rAt (mAt ms ((q.run - 1).toNat)).t.slots ((q.a).toNat)))) rfl h624 rfl rfl ?_
            exact Xa ⟨⟨e602, (congrArg Value.bool (by first | (simp only [h108, h116, h125, h524, h534, h536, h537, h558, h568, h569, h608, h618, h619, h624, hT117, hc118, hkd119, b0, b1, b2, b3, b4, b5, b6, b7, b8, b9]; done) | simp [h108, h116, h125, h524, h534, h536, h537, h558, h568, h569, h608, h618, h619, h624, hT117, hc118, hkd119]))⟩, hg627⟩
           ·
            iterate 4 refine Xk rfl rfl rfl h624 rfl ?_
            refine Xl (v := .bool false) rfl h624 rfl rfl ?_
            exact Xa ⟨⟨e602, (congrArg Value.bool (by first | (simp only [h108, h116, h125, h524, h534, h536, h537, h558, h568, h569, h608, h618, h619, h624, hT117, hc118, hkd119, b0, b1, b2, b3, b4, b5, b6, b7, b8, b9]; done) | simp [h108, h116, h125, h524, h534, h536, h537, h558, h568, h569, h608, h618, h619, h624, hT117, hc118, hkd119]))⟩, (World.grownBy.refl _ _)⟩
          ·
           rintro f629 w630 ⟨⟨e631, e632⟩, hg633⟩
           have hb634 := low0 hb607 hg633
           refine Xw e632 (fun h635 => ?_) (fun h635 => ?_)
           ·
            have h636 := Lk h635
            have h637 := Li h635
            have h638 := Zn h637
            refine Xb ?_
            refine Yw (ps := [(0, .int .i64 (-3))]) (v := .agg #[.int .i64 (-3)]) (Xp rfl X9) (by kernel_rfl) rfl ?_
            refine Yu (v := .agg #[.int .i64 (-3)]) (cs := #[.int .i64 (-3)]) rfl rfl rfl ?_
            intro B639 w640 hN641
            have hlB639 := Yf hN641 hb634
            have k642 := (((k570.grown0 hg573).grown0 hg606).grown0 hg633)
            have lt_B101_B639 := Xq hN641 (k642).lt
            have k643 := ((((((((hSl131.grown0 hN137.grw).grown hS141.grw (Xf (by omega))).grown0 hi361).grown hS380.grw (Xf (by omega))).grown0 hg522).grown0 hg573).grown0 hg606).grown0 hg633)
            have lt_B129_B639 := Xq hN641 (k643).lt
            have k644 := ((((((hS141.blk.grown0 hi361).grown hS380.grw (Xf (by omega))).grown0 hg522).grown0 hg573).grown0 hg606).grown0 hg633)
            have lt_B135_B639 := Xq hN641 (k644).lt
            have k645 := (((k571.grown0 hg573).grown0 hg606).grown0 hg633)
            have lt_B224_B639 := Xq hN641 (k645).lt
            have hb646 := low0 hb634 hN641.grw
            refine Je (v := .pointer (some ⟨B639, 0, none⟩)) (by kernel_rfl) rfl rfl ?_
            refine Xh (v := .iface 58 (.pointer (some ⟨B639, 0, none⟩))) rfl rfl ?_
            refine Xa ?_
            refine Xs ?_
            refine Yi ?_
            have hck647 : chkAll (tabT ms) q = -3 := (Z3 h116).trans (Lg h125 (Ld h524 h558) h608 h635).symm
            refine ⟨.iface 58 (.pointer (some ⟨B639, 0, none⟩)), Yq rfl rfl, Or.inr ⟨B639, ⟨by rw [hck647]; decide, rfl⟩, hlB639, ?_⟩, hb646⟩
            rw [hck647]; exact hN641.blk
           ·
            refine Xy ?_
            refine Xv ?_
            refine Xb ?_
            refine Xh (v := .nilIface) rfl rfl ?_
            refine Xa ?_
            refine Xs ?_
            have hck648 : chkAll (tabT ms) q = 0 := (Z3 h116).trans (Lu h125 (Ld h524 h558) h608 h635).symm
            exact ⟨.nilIface, Yq rfl rfl, Or.inl ⟨hck648, rfl⟩, hb634⟩
theorem Hi (q : Cl) (w : World) (ms : List MTh) (a : Option Addr) (c : Nat) (ht : TabAt w a ms) (hlen : TabLen ms) (hn : ms.length ≤ 1048576) (hE : ErrT w) (hck : chkAll (tabT ms) q = 0) : CallsR Tryd.prog 13 #[.slice a ms.length c, .agg #[.int .i64 q.kind, .int .i64 q.run, .int .i64 q.a, .int .i64 q.b, .int .i64 q.n]] w (fun v w' => v = .int .i64 (chkAll (tabT ms) q) ∧ w.grownBy w' none) := by
 refine X0 (n := 15) Tryd.func13 rfl Tryd.ntmps13 rfl ?_
 have hb0 := World.grownBy.refl w none
 refine Xb ?_
 refine Yu (v := .agg #[.int .i64 q.kind, .int .i64 q.run, .int .i64 q.a, .int .i64 q.b, .int .i64 q.n]) (cs := #[.int .i64 q.kind, .int .i64 q.run, .int .i64 q.a, .int .i64 q.b, .int .i64 q.n]) rfl rfl rfl ?_
 intro B101 w102 hN103
 have hlB101 := Yf hN103 hb0
 have hb104 := low0 hb0 hN103.grw
 refine Xh (v := .int .i64 0) rfl rfl ?_
 refine Xa ?_
 refine Xb ?_
 refine Yj (cs := #[.pointer none]) S5 rfl rfl ?_
 intro B105 w106 hN107
 have hlB105 := Yf hN107 hb104
 have lt_B101_B105 := Xq hN107 (hN103.blk).lt
 have hb108 := low0 hb104 hN107.grw
 refine Xa ?_
 refine Xt ?_
 refine Xb ?_
 refine Xc (v := .slice a ms.length c) rfl rfl ?_
 have k109 := (hN103.blk.grown0 hN107.grw)
 refine Xu (vs := [.int .i64 q.kind, .int .i64 q.run, .int .i64 q.a, .int .i64 q.b, .int .i64 q.n]) Yv rfl rfl (k109.rangeL 0 5 rfl) rfl ?_
 refine Xn (vs := [.slice a ms.length c, .agg #[.int .i64 q.kind, .int .i64 q.run, .int .i64 q.a, .int .i64 q.b, .int .i64 q.n]]) S6 (Xg rfl (Xg rfl Xm)) rfl (Wp q _ ms _ _ (TabAt.low ht hb108) hlen (by omega)) ?_
 rintro _ w110 ⟨hx111, hg112⟩
 obtain ⟨_, rfl⟩ := hx111.resolve_right (fun ⟨_, h, _⟩ => h.1 hck)
 have hb113 := low0 hb108 hg112
 refine Je (v := .pointer (some ⟨B105, 0, none⟩)) (by kernel_rfl) rfl rfl ?_
 refine Xn (vs := [.nilIface, .iface 63 (.pointer (some ⟨B105, 0, none⟩))]) Sw (Xg rfl (Xg rfl Xm)) rfl (Po _ _) ?_
 rintro _ _ ⟨rfl, rfl⟩
 refine Xa ?_
 refine Zr rfl rfl ?_
 refine Xy ?_
 refine Xv ?_
 refine Xb ?_
 refine Xh (v := .int .i64 0) rfl rfl ?_
 refine Xa ?_
 refine Xs ?_
 refine ⟨.int .i64 0, Yq rfl rfl, ?_, hb113⟩
 rw [hck]
theorem Gk (q : Cl) (w : World) (ms : List MTh) (a : Option Addr) (c : Nat) (ht : TabAt w a ms) (hlen : TabLen ms) (hn : ms.length ≤ 1048576) (hE : ErrT w) (hck : ¬ chkAll (tabT ms) q = 0) : CallsR Tryd.prog 13 #[.slice a ms.length c, .agg #[.int .i64 q.kind, .int .i64 q.run, .int .i64 q.a, .int .i64 q.b, .int .i64 q.n]] w (fun v w' => v = .int .i64 (chkAll (tabT ms) q) ∧ w.grownBy w' none) := by
 refine X0 (n := 15) Tryd.func13 rfl Tryd.ntmps13 rfl ?_
 have hb0 := World.grownBy.refl w none
 refine Xb ?_
 refine Yu (v := .agg #[.int .i64 q.kind, .int .i64 q.run, .int .i64 q.a, .int .i64 q.b, .int .i64 q.n]) (cs := #[.int .i64 q.kind, .int .i64 q.run, .int .i64 q.a, .int .i64 q.b, .int .i64 q.n]) rfl rfl rfl ?_
 intro B101 w102 hN103
 have hlB101 := Yf hN103 hb0
 have hb104 := low0 hb0 hN103.grw
 refine Xh (v := .int .i64 0) rfl rfl ?_
 refine Xa ?_
 refine Xb ?_
 refine Yj (cs := #[.pointer none]) S5 rfl rfl ?_
 intro B105 w106 hN107
 have hlB105 := Yf hN107 hb104
 have lt_B101_B105 := Xq hN107 (hN103.blk).lt
 have hb108 := low0 hb104 hN107.grw
 refine Xa ?_
 refine Xt ?_
 refine Xb ?_
 refine Xc (v := .slice a ms.length c) rfl rfl ?_
 have k109 := (hN103.blk.grown0 hN107.grw)
 refine Xu (vs := [.int .i64 q.kind, .int .i64 q.run, .int .i64 q.a, .int .i64 q.b, .int .i64 q.n]) Yv rfl rfl (k109.rangeL 0 5 rfl) rfl ?_
 refine Xn (vs := [.slice a ms.length c, .agg #[.int .i64 q.kind, .int .i64 q.run, .int .i64 q.a, .int .i64 q.b, .int .i64 q.n]]) S6 (Xg rfl (Xg rfl Xm)) rfl (Wp q _ ms _ _ (TabAt.low ht hb108) hlen (by omega)) ?_
 rintro _ w110 ⟨hx111, hg112⟩
 obtain ⟨B113, ⟨_, rfl⟩, hge114, k115⟩ := hx111.resolve_left (fun h => hck h.1)
 have hb116 := low0 hb108 hg112
 have hlB113 := Nat.le_trans hb108.size hge114
 have lt_B101_B113 := Nat.lt_of_lt_of_le (k109).lt hge114
 have lt_B105_B113 := Nat.lt_of_lt_of_le (hN107.blk).lt hge114
 refine Je (v := .pointer (some ⟨B105, 0, none⟩)) (by kernel_rfl) rfl rfl ?_
 have k117 := (hN107.blk.grown0 hg112)
 refine Xn (vs := [.iface 58 (.pointer (some ⟨B113, 0, none⟩)), .iface 63 (.pointer (some ⟨B105, 0, none⟩))]) Sw (Xg rfl (Xg rfl Xm)) rfl (Pa B113 B105 _ _ (ErrT.grown0 hE hb116) k117) ?_
 have k121 := (k109.grown0 hg112)
 rintro _ w118 ⟨rfl, k119, hg120⟩
 have hb122 := low1 hb116 hg120 (by omega)
 refine Xa ?_
 refine Zc rfl rfl ?_
 refine Xb ?_
 refine Xi (v := .pointer (some ⟨B113, 0, none⟩)) Ba rfl (k119.cell rfl) rfl ?_
 refine Zu rfl rfl ?_
 refine Xd (o' := 0) Rr rfl rfl rfl ?_
 have k123 := (k115.grown hg120 (Xf (by omega)))
 refine Xi (v := .int .i64 (chkAll (tabT ms) q)) X3 rfl (k123.cell rfl) rfl ?_
 refine Xh (v := .int .i64 (chkAll (tabT ms) q)) rfl rfl ?_
 refine Xa ?_
 refine Xs ?_
 refine Yi ?_
 refine ⟨.int .i64 (chkAll (tabT ms) q), Yq rfl rfl, ?_, hb122⟩
 rfl
theorem Q8 (q : Cl) (w : World) (ms : List MTh) (a : Option Addr) (c : Nat) (ht : TabAt w a ms) (hlen : TabLen ms) (hn : ms.length ≤ 1048576) (hE : ErrT w) : CallsR Tryd.prog 13 #[.slice a ms.length c, .agg #[.int .i64 q.kind, .int .i64 q.run, .int .i64 q.a, .int .i64 q.b, .int .i64 q.n]] w (fun v w' => v = .int .i64 (chkAll (tabT ms) q) ∧ w.grownBy w' none) := by
 by_cases hck : chkAll (tabT ms) q = 0
 · exact Hi q w ms a c ht hlen hn hE hck
 · exact Gk q w ms a c ht hlen hn hE hck
end Go.Proofs.YtfoplmgoiblkgaaDoor
end
section
namespace Go.Proofs.YtfoplmgoiblkgaaDoor
open Go.RowKit Go.Dw
set_option maxRecDepth 100000
set_option maxHeartbeats 4000000
set_option linter.unusedSimpArgs false
set_option linter.unusedVariables false
theorem U2 : goFn Tryd.prog 10 = true := by kernel_rfl
theorem Pp : goFn Tryd.prog 11 = true := by kernel_rfl
theorem S0 : goFn Tryd.prog 12 = true := by kernel_rfl
theorem Wk : goFn Tryd.prog 13 = true := by kernel_rfl
theorem T0 : goFn Tryd.prog 14 = true := by kernel_rfl
theorem P1 : goFn Tryd.prog 15 = true := by kernel_rfl
theorem P8 : goFn Tryd.prog 16 = true := by kernel_rfl
theorem Lq : goFn Tryd.prog 17 = true := by kernel_rfl
theorem Mt : goFn Tryd.prog 18 = true := by kernel_rfl
theorem Bo : goFn Tryd.prog 9 = true := by kernel_rfl
theorem Sv : rowTy Tryd.prog 24 = some 5 := by kernel_rfl
theorem law_FnExactCheckCall (q : Cl) (w : World) (ms : List MTh) (a : Option Addr) (c : Nat) (ht : TabAt w a ms) (hbig : TabBig ms) (hn : ms.length ≤ 9223372036854775807) (hE : ErrT w) : CallsR Tryd.prog 3 #[.slice a ms.length c, .agg #[.int .i64 q.kind, .int .i64 q.run, .int .i64 q.a, .int .i64 q.b, .int .i64 q.n]] w (fun v w' => v = .bool true ∧ w.grownBy w' none) := by
 refine X0 (n := 33) Tryd.func3 rfl Tryd.ntmps3 rfl ?_
 have hb0 := World.grownBy.refl w none
 refine Xb ?_
 refine Yu (v := .agg #[.int .i64 q.kind, .int .i64 q.run, .int .i64 q.a, .int .i64 q.b, .int .i64 q.n]) (cs := #[.int .i64 q.kind, .int .i64 q.run, .int .i64 q.a, .int .i64 q.b, .int .i64 q.n]) rfl rfl rfl ?_
 intro B101 w102 hN103
 have hlB101 := Yf hN103 hb0
 have hb104 := low0 hb0 hN103.grw
 refine Xh (v := .bool false) rfl rfl ?_
 refine Xa ?_
 refine Xb ?_
 refine Xh (v := .int .i64 1048576) rfl rfl ?_
 refine Xa ?_
 refine Xb ?_
 refine Xc (v := .slice a ms.length c) rfl rfl ?_
 refine Xc (v := .int .i64 1048576) rfl rfl ?_
 refine Xn (vs := [.slice a ms.length c, .int .i64 1048576]) Bo (Xg rfl (Xg rfl Xm)) rfl (H3 1048576 _ ms _ _ (TabAt.low ht hb104) hbig (by omega) (by omega)) ?_
 rintro _ w105 ⟨n107, rfl, hn108, hn109, hn110, hg106⟩
 have hb111 := low0 hb104 hg106
 refine Xh (v := .int .i64 n107) rfl rfl ?_
 refine Xa ?_
 refine Xt ?_
 refine Xb ?_
 refine Xc (v := .int .i64 n107) rfl rfl ?_
 refine Y4 (q := decide (n107 < 0)) rfl rfl rfl rfl ?_
 refine Xa ?_
 refine Xw rfl (fun h112 => ?_) (fun h112 => ?_)
 ·
  have h113 := of_decide_eq_true h112
  refine Xb ?_
  refine Xh (v := .bool true) rfl rfl ?_
  refine Xa ?_
  refine Xs ?_
  refine Yi ?_
  refine ⟨.bool true, Yq rfl rfl, ?_, hb111⟩
  rfl
 ·
  obtain ⟨hlen114, hn115⟩ := hn108 (by have hq := of_decide_eq_false h112; omega)
  have h116 := of_decide_eq_false h112
  refine Xy ?_
  refine Xv ?_
  refine Xt ?_
  refine Qs (m := 3) [[], [0], [], [0, 1, 2], [0, 1, 2, 3], [0, 1, 2, 3, 4]] (fun S F w' => ∃ (B177 : Nat) (ys178 : List MTh), w105.grownBy w' none ∧ F 0 = .slice a ms.length c ∧ F 3 = .pointer (some ⟨B101, 0, none⟩) ∧ F 4 = .bool false ∧ (S 0 = true → F 14 = .slice a ms.length c) ∧ (S 1 = true → F 15 = .slice (some ⟨B177, 0, none⟩) ys178.length ys178.length ∧ tabT ys178 = tabT ms ∧ TabLen ys178 ∧ ys178.length = ms.length ∧ TabAt w' (some ⟨B177, 0, none⟩) ys178) ∧ (S 2 = true → F 16 = .agg #[.int .i64 q.kind, .int .i64 q.run, .int .i64 q.a, .int .i64 q.b, .int .i64 q.n])) Zi (by kernel_rfl) ⟨0, [], Yl _, rfl, rfl, rfl, fun h => X5 h, fun h => X5 h, fun h => X5 h⟩ ?_ ?_
  ·
   refine X6 (fun S F w190 hS hbef hcl hI => ?_) ?_
   ·
    obtain ⟨B177, ys178, hi191, e192, e193, e194, c_0, c_1, c_2⟩ := hI
    have hb195 := low0 hb111 hi191
    refine Xc (v := .slice a ms.length c) e192 rfl ?_
    exact Xa ⟨B177, ys178, hi191, e192, e193, e194, fun _ => rfl, fun h => Xx 1 hS hcl rfl h, c_2⟩
   refine X6 (fun S F w196 hS hbef hcl hI => ?_) ?_
   ·
    obtain ⟨B177, ys178, hi197, e198, e199, e200, c_0, c_1, c_2⟩ := hI
    have hb201 := low0 hb111 hi197
    obtain e202 := c_0 (Xo 0 hbef rfl)
    refine Xn (vs := [.slice a ms.length c]) Pp (Xg e202 Xm) rfl (Vb _ ms _ _ (TabAt.low ht hb201) hlen114 (by omega)) ?_
    rintro _ w210 ⟨B203, ys204, rfl, he205, hge206, k207, hX208, hg209⟩
    have hb214 := low0 hb201 hg209
    have hT211 : TabAt w210 (some ⟨B203, 0, none⟩) ys204 := ⟨Qf Zy k207, fun m hm => (hX208 m hm).at⟩
    have hTl212 := TabLen.of he205 hlen114
    have hll213 := J7 he205
    exact Xa ⟨B203, ys204, (low0 hi197 hg209), e198, e199, e200, c_0, fun _ => ⟨rfl, he205, hTl212, hll213, hT211⟩, c_2⟩
   refine X6 (fun S F w215 hS hbef hcl hI => ?_) ?_
   ·
    obtain ⟨B177, ys178, hi216, e217, e218, e219, c_0, c_1, c_2⟩ := hI
    have hb220 := low0 hb111 hi216
    have k221 := ((hN103.blk.grown0 hg106).grown0 hi216)
    refine Xu (vs := [.int .i64 q.kind, .int .i64 q.run, .int .i64 q.a, .int .i64 q.b, .int .i64 q.n]) Sv e218 rfl (k221.rangeL 0 5 rfl) rfl ?_
    exact Xa ⟨B177, ys178, hi216, e217, e218, e219, c_0, c_1, fun _ => rfl⟩
   exact Q5
  ·
   intro S F w222 hall hI
   obtain ⟨B177, ys178, hi223, e224, e225, e226, c_0, c_1, c_2⟩ := hI
   have hb227 := low0 hb111 hi223
   obtain e228 := c_0 (hall 0 (by decide))
   obtain ⟨e229, he179, hTl186, hll187, hT185⟩ := c_1 (hall 1 (by decide))
   obtain e230 := c_2 (hall 2 (by decide))
   refine Xn (vs := [.agg #[.int .i64 q.kind, .int .i64 q.run, .int .i64 q.a, .int .i64 q.b, .int .i64 q.n]]) S0 (Xg e230 Xm) rfl (Hk q _) ?_
   rintro _ w231 ⟨rfl, hg232⟩
   have hb233 := low0 hb227 hg232
   refine Xn (vs := [.slice (some ⟨B177, 0, none⟩) ys178.length ys178.length, .agg #[.int .i64 q.kind, .int .i64 q.run, .int .i64 q.a, .int .i64 q.b, .int .i64 q.n]]) U2 (Xg e229 (Xg rfl Xm)) rfl (Qp q _ ys178 _ _ (TabAt.low hT185 hg232) hTl186 (by omega)) ?_
   rintro _ w234 ⟨rfl, hg235⟩
   have hb236 := low0 hb233 hg235
   have hck237 := Z4 (ts := tabT ms) (q := q)
   refine Xh (v := .int .i64 (chkAll (tabT ms) q)) (congrArg (fun T : List Th => Value.int .i64 (chkAll T q)) he179) rfl ?_
   refine Xa ?_
   refine Xv ?_
   refine Xb ?_
   refine Xc (v := .slice a ms.length c) e224 rfl ?_
   refine Xn (vs := [.slice a ms.length c]) Pp (Xg rfl Xm) rfl (Vb _ ms _ _ (TabAt.low ht hb236) hlen114 (by omega)) ?_
   rintro _ w245 ⟨B238, ys239, rfl, he240, hge241, k242, hX243, hg244⟩
   have hb249 := low0 hb236 hg244
   have hT246 : TabAt w245 (some ⟨B238, 0, none⟩) ys239 := ⟨Qf Zy k242, fun m hm => (hX243 m hm).at⟩
   have hTl247 := TabLen.of he240 hlen114
   have hll248 := J7 he240
   refine Xh (v := .slice (some ⟨B238, 0, none⟩) ys239.length ys239.length) rfl rfl ?_
   refine Xa ?_
   refine Xb ?_
   refine Xc (v := .slice (some ⟨B238, 0, none⟩) ys239.length ys239.length) rfl rfl ?_
   have k250 := (((((hN103.blk.grown0 hg106).grown0 hi223).grown0 hg232).grown0 hg235).grown0 hg244)
   refine Xu (vs := [.int .i64 q.kind, .int .i64 q.run, .int .i64 q.a, .int .i64 q.b, .int .i64 q.n]) Sv e225 rfl (k250.rangeL 0 5 rfl) rfl ?_
   refine Xn (vs := [.agg #[.int .i64 q.kind, .int .i64 q.run, .int .i64 q.a, .int .i64 q.b, .int .i64 q.n]]) S0 (Xg rfl Xm) rfl (Hk q _) ?_
   rintro _ w251 ⟨rfl, hg252⟩
   have hb253 := low0 hb249 hg252
   refine Xn (vs := [.slice (some ⟨B238, 0, none⟩) ys239.length ys239.length, .agg #[.int .i64 q.kind, .int .i64 q.run, .int .i64 q.a, .int .i64 q.b, .int .i64 q.n]]) Wk (Xg rfl (Xg rfl Xm)) rfl (Q8 q _ ys239 _ _ (TabAt.low hT246 hg252) hTl247 (by omega) (ErrT.grown0 hE hb253)) ?_
   rintro _ w254 ⟨rfl, hg255⟩
   have hb256 := low0 hb253 hg255
   have hck257 := Z4 (ts := tabT ms) (q := q)
   refine Xh (v := .int .i64 (chkAll (tabT ms) q)) (congrArg (fun T : List Th => Value.int .i64 (chkAll T q)) he240) rfl ?_
   refine Xa ?_
   refine Xt ?_
   refine Xb ?_
   refine Xc (v := .int .i64 (chkAll (tabT ms) q)) rfl rfl ?_
   refine Xc (v := .int .i64 (chkAll (tabT ms) q)) rfl rfl ?_
   refine Y7 (q := false) rfl rfl (by simp) rfl ?_
   refine Xa ?_
   refine Zr rfl rfl ?_
   refine Xy ?_
   refine Xv ?_
   refine Xt ?_
   refine Xb ?_
   refine Xc (v := .slice (some ⟨B238, 0, none⟩) ys239.length ys239.length) rfl rfl ?_
   refine Xc (v := .slice a ms.length c) e224 rfl ?_
   refine Xn (vs := [.slice a ms.length c]) Pp (Xg rfl Xm) rfl (Vb _ ms _ _ (TabAt.low ht hb256) hlen114 (by omega)) ?_
   rintro _ w265 ⟨B258, ys259, rfl, he260, hge261, k262, hX263, hg264⟩
   have hb269 := low0 hb256 hg264
   have hT266 : TabAt w265 (some ⟨B258, 0, none⟩) ys259 := ⟨Qf Zy k262, fun m hm => (hX263 m hm).at⟩
   have hTl267 := TabLen.of he260 hlen114
   have hll268 := J7 he260
   refine Xn (vs := [.slice (some ⟨B238, 0, none⟩) ys239.length ys239.length, .slice (some ⟨B258, 0, none⟩) ys259.length ys259.length]) T0 (Xg rfl (Xg rfl Xm)) rfl (Hq _ ys239 ys259 _ _ _ _ (TabAt.low hT246 (grown_trans (grown_trans hg252 hg255) hg264)) hT266 hTl247 hTl267 (by omega) (by omega)) ?_
   rintro _ w270 ⟨rfl, hg271⟩
   have hb272 := low0 hb269 hg271
   refine Yk (b' := false) (congrArg Value.bool (decide_eq_true (he240.trans he260.symm))) rfl rfl ?_
   refine Xa ?_
   refine Zr rfl rfl ?_
   refine Xy ?_
   refine Xv ?_
   refine Xb ?_
   refine Xh (v := .bool true) rfl rfl ?_
   refine Xa ?_
   refine Xs ?_
   refine ⟨.bool true, Yq rfl rfl, ?_, hb272⟩
   rfl
theorem law_FnCheckRight (bs : List Int) (a : Option Addr) (c : Nat) (w : World) (hs0 : SlAt w a 1 (bs.map bcell)) (hb : ∀ b ∈ bs, 0 ≤ b ∧ b ≤ 255) (hn : bs.length ≤ 9223372036854775807) (hc : bs.length ≤ c) (hE : ErrT w) : CallsR Tryd.prog 4 #[.slice a bs.length c] w (fun v w' => v = .bool true ∧ w.grownBy w' none) := by
 refine X0 (n := 92) Tryd.func4 rfl Tryd.ntmps4 rfl ?_
 have hb0 := World.grownBy.refl w none
 have hs := SlAt.lt Vc (by omega) hs0
 refine Xb ?_
 refine Xh (v := .bool false) rfl rfl ?_
 refine Xa ?_
 refine Xt ?_
 refine Xb ?_
 refine Xc (v := .slice a bs.length c) rfl rfl ?_
 refine Ym (by kernel_rfl) rfl rfl ?_
 refine Zq (q := decide (1048576 < (bs.length : Int))) rfl rfl rfl rfl ?_
 refine Xa ?_
 refine Xw rfl (fun h101 => ?_) (fun h101 => ?_)
 ·
  have h102 := of_decide_eq_true h101
  refine Xb ?_
  refine Xh (v := .bool true) rfl rfl ?_
  refine Xa ?_
  refine Xs ?_
  refine Yi ?_
  refine ⟨.bool true, Yq rfl rfl, ?_, hb0⟩
  rfl
 ·
  have h103 := of_decide_eq_false h101
  refine Xy ?_
  refine Xv ?_
  refine Xb ?_
  refine Xc (v := .slice a bs.length c) rfl rfl ?_
  refine Xn (vs := [.slice a bs.length c]) P1 (Xg rfl Xm) rfl (Jt bs a c _ (SlAt.low hs0 hb0) hb (by omega) (by omega)) ?_
  rintro _ w113 ⟨B104, cap105, ms106, q107, rfl, hTG108, hTS109, hTn110, hq111, hg112⟩
  have hb114 := low0 hb0 hg112
  have hTl115 := hTS109.len
  refine Xc (v := .tuple #[.slice (some ⟨B104, 0, none⟩) ms106.length cap105, .agg #[.int .i64 q107.kind, .int .i64 q107.run, .int .i64 q107.a, .int .i64 q107.b, .int .i64 q107.n]]) rfl rfl ?_
  refine Yz (v := .slice (some ⟨B104, 0, none⟩) ms106.length cap105) rfl rfl rfl ?_
  refine Yz (v := .agg #[.int .i64 q107.kind, .int .i64 q107.run, .int .i64 q107.a, .int .i64 q107.b, .int .i64 q107.n]) rfl rfl rfl ?_
  refine Yj (cs := #[.int .i64 0, .int .i64 0, .int .i64 0, .int .i64 0, .int .i64 0]) Vw rfl rfl ?_
  intro B116 w117 hN118
  have hlB116 := Yf hN118 hb114
  have hb119 := low0 hb114 hN118.grw
  refine Xh (v := .slice (some ⟨B104, 0, none⟩) ms106.length cap105) rfl rfl ?_
  refine Xz (vs := [.int .i64 q107.kind, .int .i64 q107.run, .int .i64 q107.a, .int .i64 q107.b, .int .i64 q107.n]) (cs' := #[.int .i64 q107.kind, .int .i64 q107.run, .int .i64 q107.a, .int .i64 q107.b, .int .i64 q107.n]) Yv rfl rfl rfl (by simp [Value.oneCell']) hN118.blk (Nat.le_of_ble_eq_true rfl) rfl ?_
  intro w120 hS121
  have hb122 := low1 hb119 hS121.grw (by omega)
  refine Xa ?_
  refine Xb ?_
  refine Xc (v := .slice (some ⟨B104, 0, none⟩) ms106.length cap105) rfl rfl ?_
  refine Xu (vs := [.int .i64 q107.kind, .int .i64 q107.run, .int .i64 q107.a, .int .i64 q107.b, .int .i64 q107.n]) Yv rfl rfl (hS121.blk.rangeL 0 5 rfl) rfl ?_
  refine Xn (vs := [.slice (some ⟨B104, 0, none⟩) ms106.length cap105, .agg #[.int .i64 q107.kind, .int .i64 q107.run, .int .i64 q107.a, .int .i64 q107.b, .int .i64 q107.n]]) Wk (Xg rfl (Xg rfl Xm)) rfl (Q8 q107 _ ms106 _ _ (TabG.at (TabG.low hTG108 (low1 hN118.grw hS121.grw (Nat.le_trans ((World.grownBy.refl _ none)).size (Nat.le_of_eq hN118.eq.symm))))) hTl115 (by omega) (ErrT.grown0 hE hb122)) ?_
  rintro _ w123 ⟨rfl, hg124⟩
  have hb125 := low0 hb122 hg124
  have hck126 := Z4 (ts := tabT ms106) (q := q107)
  refine Xh (v := .int .i64 (chkAll (tabT ms106) q107)) rfl rfl ?_
  refine Xa ?_
  refine Xt ?_
  refine X2 (fun f' w' => (f' 2 = .bool false ∧ f' 3 = .slice (some ⟨B104, 0, none⟩) ms106.length cap105 ∧ f' 4 = .pointer (some ⟨B116, 0, none⟩) ∧ f' 5 = .int .i64 (chkAll (tabT ms106) q107) ∧ f' 33 = .bool ((false || (!(decide (chkAll (tabT ms106) q107 = 0)))) || (decide (q107.kind = 3)))) ∧ w123.grownBy w' none) ?_ ?_
  ·
   refine Xc (v := .int .i64 (chkAll (tabT ms106) q107)) rfl rfl ?_
   refine Xc (v := .slice (some ⟨B104, 0, none⟩) ms106.length cap105) rfl rfl ?_
   have k138 := (hS121.blk.grown0 hg124)
   refine Xu (vs := [.int .i64 q107.kind, .int .i64 q107.run, .int .i64 q107.a, .int .i64 q107.b, .int .i64 q107.n]) Yv rfl rfl (k138.rangeL 0 5 rfl) rfl ?_
   refine Xn (vs := [.slice (some ⟨B104, 0, none⟩) ms106.length cap105, .agg #[.int .i64 q107.kind, .int .i64 q107.run, .int .i64 q107.a, .int .i64 q107.b, .int .i64 q107.n]]) U2 (Xg rfl (Xg rfl Xm)) rfl (Qp q107 _ ms106 _ _ (TabG.at (TabG.low hTG108 (low0 (low1 hN118.grw hS121.grw (Nat.le_trans ((World.grownBy.refl _ none)).size (Nat.le_of_eq hN118.eq.symm))) hg124))) hTl115 (by omega)) ?_
   rintro _ w139 ⟨rfl, hg140⟩
   have hb141 := low0 hb125 hg140
   have hck142 := Z4 (ts := tabT ms106) (q := q107)
   refine Y7 (q := false) rfl rfl (by simp) rfl ?_
   refine Xc (v := .bool false) rfl rfl ?_
   refine Xe rfl rfl rfl rfl ?_
   refine Xc (v := .int .i64 (chkAll (tabT ms106) q107)) rfl rfl ?_
   refine Xe rfl rfl rfl rfl ?_
   refine Y7 (q := !(decide (chkAll (tabT ms106) q107 = 0))) rfl rfl rfl rfl ?_
   refine Xl (v := .bool (!(decide (chkAll (tabT ms106) q107 = 0)))) rfl rfl rfl rfl ?_
   refine Xc (v := .bool (!(decide (chkAll (tabT ms106) q107 = 0)))) rfl rfl ?_
   rcases Yb (!(decide (chkAll (tabT ms106) q107 = 0))) with h143 | h143
   ·
    have h144 := Zn h143
    have h145 := of_decide_eq_false h144
    iterate 3 refine Xk rfl rfl rfl h143 rfl ?_
    refine Xr (v := .bool true) rfl h143 rfl rfl ?_
    exact Xa ⟨⟨rfl, rfl, rfl, rfl, (congrArg Value.bool (by first | (simp only [h101, h143, h144, b0, b1, b2, b3, b4, b5, b6, b7, b8, b9]; done) | simp [h101, h143, h144]))⟩, hg140⟩
   ·
    have h146 := Zh h143
    have hp147 : callPoss (tabT ms106) q107 = true := Zo (by have := of_decide_eq_true h146; omega)
    obtain ⟨hi, hhi⟩ : ∃ n, n = w139.heap.size := ⟨_, rfl⟩
    have hTG148 := (TabG.low hTG108 (low0 (low0 (low1 hN118.grw hS121.grw (Nat.le_trans ((World.grownBy.refl _ none)).size (Nat.le_of_eq hN118.eq.symm))) hg124) hg140))
    have hTH := TabG.hi (TabG.low hTG108 (low0 (low0 (low1 hN118.grw hS121.grw (Nat.le_trans ((World.grownBy.refl _ none)).size (Nat.le_of_eq hN118.eq.symm))) hg124) hg140))
    rw [← hhi] at hTH
    obtain ⟨hT149, hc150, hkd151⟩ := Zs hp147
    have hco152 := Z2 hc150
    have hkp153 := (Z5 hkd151).1
    have h4154 := Jc hT149 hkd151
    have hml155 := K7 hT149
    have h156 := of_decide_eq_true h146
    refine Xe rfl rfl rfl h143 ?_
    refine Xd (o' := 0) Zm rfl rfl rfl ?_
    refine Xe rfl rfl rfl h143 ?_
    have k157 := (k138.grown0 hg140)
    refine Xi (v := .int .i64 q107.kind) X3 rfl (k157.cell rfl) rfl ?_
    refine Xe rfl rfl rfl h143 ?_
    refine X4 (q := decide (q107.kind = 3)) rfl rfl rfl rfl ?_
    refine Xl (v := .bool (decide (q107.kind = 3))) rfl h143 rfl rfl ?_
    exact Xa ⟨⟨rfl, rfl, rfl, rfl, (congrArg Value.bool (by first | (simp only [h101, h143, h146, hT149, hc150, hkd151, hp147, b0, b1, b2, b3, b4, b5, b6, b7, b8, b9]; done) | simp [h101, h143, h146, hT149, hc150, hkd151, hp147]))⟩, hg140⟩
  ·
   rintro f158 w159 ⟨⟨e160, e161, e162, e163, e164⟩, hg165⟩
   have hb166 := low0 hb125 hg165
   refine Xw e164 (fun h167 => ?_) (fun h167 => ?_)
   ·
    refine Xb ?_
    refine Xc (v := .int .i64 (chkAll (tabT ms106) q107)) e163 rfl ?_
    refine Xc (v := .slice (some ⟨B104, 0, none⟩) ms106.length cap105) e161 rfl ?_
    have k168 := ((hS121.blk.grown0 hg124).grown0 hg165)
    refine Xu (vs := [.int .i64 q107.kind, .int .i64 q107.run, .int .i64 q107.a, .int .i64 q107.b, .int .i64 q107.n]) Yv e162 rfl (k168.rangeL 0 5 rfl) rfl ?_
    refine Xn (vs := [.slice (some ⟨B104, 0, none⟩) ms106.length cap105, .agg #[.int .i64 q107.kind, .int .i64 q107.run, .int .i64 q107.a, .int .i64 q107.b, .int .i64 q107.n]]) U2 (Xg rfl (Xg rfl Xm)) rfl (Qp q107 _ ms106 _ _ (TabG.at (TabG.low hTG108 (low0 (low0 (low1 hN118.grw hS121.grw (Nat.le_trans ((World.grownBy.refl _ none)).size (Nat.le_of_eq hN118.eq.symm))) hg124) hg165))) hTl115 (by omega)) ?_
    rintro _ w169 ⟨rfl, hg170⟩
    have hb171 := low0 hb166 hg170
    have hck172 := Z4 (ts := tabT ms106) (q := q107)
    refine X4 (q := true) rfl rfl (by simp) rfl ?_
    refine Xh (v := .bool true) rfl rfl ?_
    refine Xa ?_
    refine Xs ?_
    refine Yi ?_
    refine ⟨.bool true, Yq rfl rfl, ?_, hb171⟩
    rfl
   ·
    have h173 := Qx h167
    have h174 := Qx h173
    have h175 := Qy h173
    have h176 := Zh h175
    have hp177 : callPoss (tabT ms106) q107 = true := Zo (by have := of_decide_eq_true h176; omega)
    obtain ⟨hi, hhi⟩ : ∃ n, n = w159.heap.size := ⟨_, rfl⟩
    have hTG178 := (TabG.low hTG108 (low0 (low0 (low1 hN118.grw hS121.grw (Nat.le_trans ((World.grownBy.refl _ none)).size (Nat.le_of_eq hN118.eq.symm))) hg124) hg165))
    have hTH := TabG.hi (TabG.low hTG108 (low0 (low0 (low1 hN118.grw hS121.grw (Nat.le_trans ((World.grownBy.refl _ none)).size (Nat.le_of_eq hN118.eq.symm))) hg124) hg165))
    rw [← hhi] at hTH
    obtain ⟨hT179, hc180, hkd181⟩ := Zs hp177
    have hco182 := Z2 hc180
    have hkp183 := (Z5 hkd181).1
    have h4184 := Jc hT179 hkd181
    have hml185 := K7 hT179
    have h186 := of_decide_eq_true h176
    have h187 := Qy h167
    have h188 := of_decide_eq_false h187
    refine Xy ?_
    refine Xv ?_
    refine Xt ?_
    obtain ⟨b244, q245, o246, ha247, ho248, hr249⟩ := SlAt.at (TabG.at hTG178).1 (Yn (Ya (show (q107.run - 1).toNat < ms106.length by omega)))
    have hle250 := TabLen.at hTl115 (Ya (show (q107.run - 1).toNat < ms106.length by omega))
    obtain ⟨b254, q255, o256, ha257, ho258, hr259⟩ := SlAt.at (TabAt.th (TabG.at hTG178) (Ya (show (q107.run - 1).toNat < ms106.length by omega))).1 (Yn (Qg (show (q107.a).toNat < (mAt ms106 ((q107.run - 1).toNat)).t.slots.length by omega)))
    have hts260 := Ku hT179 (show ((q107.run - 1).toNat) < ms106.length by omega) (show ((q107.a).toNat) < (mAt ms106 ((q107.run - 1).toNat)).t.slots.length by omega)
    have hz271 : hi ≤ w159.heap.size := (Nat.le_of_eq hhi)
    refine Qs (m := 12) [[], [], [1], [1, 2], [0, 1, 2, 3], [0, 1, 2, 3, 4], [0, 1, 2, 3, 4, 5], [], [7], [0, 1, 2, 3, 4, 5, 6, 7, 8], [0, 1, 2, 3, 4, 5, 6, 7, 8, 9], [], [0, 1, 2, 3, 4, 5, 6, 7, 8, 9, 10, 11]] (fun S F w' => ∃ (B267 : Nat), w159.grownBy w' none ∧ F 2 = .bool false ∧ F 3 = .slice (some ⟨B104, 0, none⟩) ms106.length cap105 ∧ F 4 = .pointer (some ⟨B116, 0, none⟩) ∧ (S 0 = true → F 39 = .slice (some ⟨B104, 0, none⟩) ms106.length cap105) ∧ (S 1 = true → F 40 = .pointer (some ⟨B116, 1, none⟩)) ∧ (S 2 = true → F 41 = .int .i64 q107.run) ∧ (S 3 = true → F 42 = .int .i64 (q107.run - 1)) ∧ (S 4 = true → F 43 = .pointer (some ⟨b244, o246, none⟩)) ∧ (S 5 = true → F 44 = .pointer (some ⟨b244, o246 + 5, none⟩)) ∧ (S 6 = true → F 45 = .slice ((mAt ms106 ((q107.run - 1).toNat)).sa) ((mAt ms106 ((q107.run - 1).toNat)).t.slots.length) ((mAt ms106 ((q107.run - 1).toNat)).sc)) ∧ (S 7 = true → F 46 = .pointer (some ⟨B116, 2, none⟩)) ∧ (S 8 = true → F 47 = .int .i64 q107.a) ∧ (S 9 = true → F 48 = .pointer (some ⟨b254, o256, none⟩)) ∧ (S 10 = true → F 49 = .agg #[.int .i64 ((rAt (mAt ms106 ((q107.run - 1).toNat)).t.slots ((q107.a).toNat)).th), .int .i64 ((rAt (mAt ms106 ((q107.run - 1).toNat)).t.slots ((q107.a).toNat)).ve), .bool ((rAt (mAt ms106 ((q107.run - 1).toNat)).t.slots ((q107.a).toNat)).rd), .bool ((rAt (mAt ms106 ((q107.run - 1).toNat)).t.slots ((q107.a).toNat)).wr), .bool ((rAt (mAt ms106 ((q107.run - 1).toNat)).t.slots ((q107.a).toNat)).wk)]) ∧ (S 11 = true → F 6 = .pointer (some ⟨B267, 0, none⟩) ∧ w.heap.size ≤ B267 ∧ Blk w' B267 37 #[.int .i64 0, .int .i64 0, .bool false, .bool false, .bool false] ∧ B116 < B267 ∧ w159.heap.size ≤ B267)) Zi (by kernel_rfl) ⟨0, Yl _, e160, e161, e162, fun h => X5 h, fun h => X5 h, fun h => X5 h, fun h => X5 h, fun h => X5 h, fun h => X5 h, fun h => X5 h, fun h => X5 h, fun h => X5 h, fun h => X5 h, fun h => X5 h, fun h => X5 h⟩ ?_ ?_
    ·
     refine X6 (fun S F w272 hS hbef hcl hI => ?_) ?_
     ·
      obtain ⟨B267, hi273, e274, e275, e276, c_0, c_1, c_2, c_3, c_4, c_5, c_6, c_7, c_8, c_9, c_10, c_11⟩ := hI
      have hb277 := low0 hb166 hi273
      refine Xc (v := .slice (some ⟨B104, 0, none⟩) ms106.length cap105) e275 rfl ?_
      exact Xa ⟨B267, hi273, e274, e275, e276, fun _ => rfl, c_1, c_2, c_3, fun h => Xx 4 hS hcl rfl h, fun h => Xx 5 hS hcl rfl h, fun h => Xx 6 hS hcl rfl h, c_7, c_8, fun h => Xx 9 hS hcl rfl h, fun h => Xx 10 hS hcl rfl h, c_11⟩
     refine X6 (fun S F w278 hS hbef hcl hI => ?_) ?_
     ·
      obtain ⟨B267, hi279, e280, e281, e282, c_0, c_1, c_2, c_3, c_4, c_5, c_6, c_7, c_8, c_9, c_10, c_11⟩ := hI
      have hb283 := low0 hb166 hi279
      refine Xd (o' := 1) Zk e282 rfl rfl ?_
      exact Xa ⟨B267, hi279, e280, e281, e282, c_0, fun _ => rfl, fun h => Xx 2 hS hcl rfl h, fun h => Xx 3 hS hcl rfl h, fun h => Xx 4 hS hcl rfl h, fun h => Xx 5 hS hcl rfl h, fun h => Xx 6 hS hcl rfl h, c_7, c_8, fun h => Xx 9 hS hcl rfl h, fun h => Xx 10 hS hcl rfl h, c_11⟩
     refine X6 (fun S F w284 hS hbef hcl hI => ?_) ?_
     ·
      obtain ⟨B267, hi285, e286, e287, e288, c_0, c_1, c_2, c_3, c_4, c_5, c_6, c_7, c_8, c_9, c_10, c_11⟩ := hI
      have hb289 := low0 hb166 hi285
      obtain e290 := c_1 (Xo 1 hbef rfl)
      have k291 := (((hS121.blk.grown0 hg124).grown0 hg165).grown0 hi285)
      refine Xi (v := .int .i64 q107.run) X3 e290 (k291.cell rfl) rfl ?_
      exact Xa ⟨B267, hi285, e286, e287, e288, c_0, c_1, fun _ => rfl, fun h => Xx 3 hS hcl rfl h, fun h => Xx 4 hS hcl rfl h, fun h => Xx 5 hS hcl rfl h, fun h => Xx 6 hS hcl rfl h, c_7, c_8, fun h => Xx 9 hS hcl rfl h, fun h => Xx 10 hS hcl rfl h, c_11⟩
     refine X6 (fun S F w292 hS hbef hcl hI => ?_) ?_
     ·
      obtain ⟨B267, hi293, e294, e295, e296, c_0, c_1, c_2, c_3, c_4, c_5, c_6, c_7, c_8, c_9, c_10, c_11⟩ := hI
      have hb297 := low0 hb166 hi293
      obtain e298 := c_1 (Xo 1 hbef rfl)
      obtain e299 := c_2 (Xo 2 hbef rfl)
      refine Y3 (c := q107.run - 1) e299 rfl (by omega) (by omega) (by omega) rfl ?_
      exact Xa ⟨B267, hi293, e294, e295, e296, c_0, c_1, c_2, fun _ => rfl, fun h => Xx 4 hS hcl rfl h, fun h => Xx 5 hS hcl rfl h, fun h => Xx 6 hS hcl rfl h, c_7, c_8, fun h => Xx 9 hS hcl rfl h, fun h => Xx 10 hS hcl rfl h, c_11⟩
     refine X6 (fun S F w300 hS hbef hcl hI => ?_) ?_
     ·
      obtain ⟨B267, hi301, e302, e303, e304, c_0, c_1, c_2, c_3, c_4, c_5, c_6, c_7, c_8, c_9, c_10, c_11⟩ := hI
      have hb305 := low0 hb166 hi301
      obtain e306 := c_0 (Xo 0 hbef rfl)
      obtain e307 := c_1 (Xo 1 hbef rfl)
      obtain e308 := c_2 (Xo 2 hbef rfl)
      obtain e309 := c_3 (Xo 3 hbef rfl)
      refine Yd Zl e306 e309 ha247 ho248 (by omega) (by omega) rfl ?_
      exact Xa ⟨B267, hi301, e302, e303, e304, c_0, c_1, c_2, c_3, fun _ => rfl, fun h => Xx 5 hS hcl rfl h, fun h => Xx 6 hS hcl rfl h, c_7, c_8, fun h => Xx 9 hS hcl rfl h, fun h => Xx 10 hS hcl rfl h, c_11⟩
     refine X6 (fun S F w310 hS hbef hcl hI => ?_) ?_
     ·
      obtain ⟨B267, hi311, e312, e313, e314, c_0, c_1, c_2, c_3, c_4, c_5, c_6, c_7, c_8, c_9, c_10, c_11⟩ := hI
      have hb315 := low0 hb166 hi311
      obtain e316 := c_0 (Xo 0 hbef rfl)
      obtain e317 := c_1 (Xo 1 hbef rfl)
      obtain e318 := c_2 (Xo 2 hbef rfl)
      obtain e319 := c_3 (Xo 3 hbef rfl)
      obtain e320 := c_4 (Xo 4 hbef rfl)
      refine Xd (o' := o246 + 5) Zt e320 rfl rfl ?_
      exact Xa ⟨B267, hi311, e312, e313, e314, c_0, c_1, c_2, c_3, c_4, fun _ => rfl, fun h => Xx 6 hS hcl rfl h, c_7, c_8, fun h => Xx 9 hS hcl rfl h, fun h => Xx 10 hS hcl rfl h, c_11⟩
     refine X6 (fun S F w321 hS hbef hcl hI => ?_) ?_
     ·
      obtain ⟨B267, hi322, e323, e324, e325, c_0, c_1, c_2, c_3, c_4, c_5, c_6, c_7, c_8, c_9, c_10, c_11⟩ := hI
      have hb326 := low0 hb166 hi322
      obtain e327 := c_0 (Xo 0 hbef rfl)
      obtain e328 := c_1 (Xo 1 hbef rfl)
      obtain e329 := c_2 (Xo 2 hbef rfl)
      obtain e330 := c_3 (Xo 3 hbef rfl)
      obtain e331 := c_4 (Xo 4 hbef rfl)
      obtain e332 := c_5 (Xo 5 hbef rfl)
      refine Xi (v := .slice ((mAt ms106 ((q107.run - 1).toNat)).sa) ((mAt ms106 ((q107.run - 1).toNat)).t.slots.length) ((mAt ms106 ((q107.run - 1).toNat)).sc)) Qq e332 ((Yo hr249 hi322) 5 _ rfl) rfl ?_
      exact Xa ⟨B267, hi322, e323, e324, e325, c_0, c_1, c_2, c_3, c_4, c_5, fun _ => rfl, c_7, c_8, fun h => Xx 9 hS hcl rfl h, fun h => Xx 10 hS hcl rfl h, c_11⟩
     refine X6 (fun S F w333 hS hbef hcl hI => ?_) ?_
     ·
      obtain ⟨B267, hi334, e335, e336, e337, c_0, c_1, c_2, c_3, c_4, c_5, c_6, c_7, c_8, c_9, c_10, c_11⟩ := hI
      have hb338 := low0 hb166 hi334
      refine Xd (o' := 2) Qt e337 rfl rfl ?_
      exact Xa ⟨B267, hi334, e335, e336, e337, c_0, c_1, c_2, c_3, c_4, c_5, c_6, fun _ => rfl, fun h => Xx 8 hS hcl rfl h, fun h => Xx 9 hS hcl rfl h, fun h => Xx 10 hS hcl rfl h, c_11⟩
     refine X6 (fun S F w339 hS hbef hcl hI => ?_) ?_
     ·
      obtain ⟨B267, hi340, e341, e342, e343, c_0, c_1, c_2, c_3, c_4, c_5, c_6, c_7, c_8, c_9, c_10, c_11⟩ := hI
      have hb344 := low0 hb166 hi340
      obtain e345 := c_7 (Xo 7 hbef rfl)
      have k346 := (((hS121.blk.grown0 hg124).grown0 hg165).grown0 hi340)
      refine Xi (v := .int .i64 q107.a) X3 e345 (k346.cell rfl) rfl ?_
      exact Xa ⟨B267, hi340, e341, e342, e343, c_0, c_1, c_2, c_3, c_4, c_5, c_6, c_7, fun _ => rfl, fun h => Xx 9 hS hcl rfl h, fun h => Xx 10 hS hcl rfl h, c_11⟩
     refine X6 (fun S F w347 hS hbef hcl hI => ?_) ?_
     ·
      obtain ⟨B267, hi348, e349, e350, e351, c_0, c_1, c_2, c_3, c_4, c_5, c_6, c_7, c_8, c_9, c_10, c_11⟩ := hI
      have hb352 := low0 hb166 hi348
      obtain e353 := c_0 (Xo 0 hbef rfl)
      obtain e354 := c_1 (Xo 1 hbef rfl)
      obtain e355 := c_2 (Xo 2 hbef rfl)
      obtain e356 := c_3 (Xo 3 hbef rfl)
      obtain e357 := c_4 (Xo 4 hbef rfl)
      obtain e358 := c_5 (Xo 5 hbef rfl)
      obtain e359 := c_6 (Xo 6 hbef rfl)
      obtain e360 := c_7 (Xo 7 hbef rfl)
      obtain e361 := c_8 (Xo 8 hbef rfl)
      refine Yd Ka e359 e361 ha257 ho258 (by omega) (by omega) rfl ?_
      exact Xa ⟨B267, hi348, e349, e350, e351, c_0, c_1, c_2, c_3, c_4, c_5, c_6, c_7, c_8, fun _ => rfl, fun h => Xx 10 hS hcl rfl h, c_11⟩
     refine X6 (fun S F w362 hS hbef hcl hI => ?_) ?_
     ·
      obtain ⟨B267, hi363, e364, e365, e366, c_0, c_1, c_2, c_3, c_4, c_5, c_6, c_7, c_8, c_9, c_10, c_11⟩ := hI
      have hb367 := low0 hb166 hi363
      obtain e368 := c_0 (Xo 0 hbef rfl)
      obtain e369 := c_1 (Xo 1 hbef rfl)
      obtain e370 := c_2 (Xo 2 hbef rfl)
      obtain e371 := c_3 (Xo 3 hbef rfl)
      obtain e372 := c_4 (Xo 4 hbef rfl)
      obtain e373 := c_5 (Xo 5 hbef rfl)
      obtain e374 := c_6 (Xo 6 hbef rfl)
      obtain e375 := c_7 (Xo 7 hbef rfl)
      obtain e376 := c_8 (Xo 8 hbef rfl)
      obtain e377 := c_9 (Xo 9 hbef rfl)
      refine Xu (vs := [.int .i64 ((rAt (mAt ms106 ((q107.run - 1).toNat)).t.slots ((q107.a).toNat)).th), .int .i64 ((rAt (mAt ms106 ((q107.run - 1).toNat)).t.slots ((q107.a).toNat)).ve), .bool ((rAt (mAt ms106 ((q107.run - 1).toNat)).t.slots ((q107.a).toNat)).rd), .bool ((rAt (mAt ms106 ((q107.run - 1).toNat)).t.slots ((q107.a).toNat)).wr), .bool ((rAt (mAt ms106 ((q107.run - 1).toNat)).t.slots ((q107.a).toNat)).wk)]) Y8 e377 rfl (Za (Yo hr259 hi363) 0 5 rfl) rfl ?_
      exact Xa ⟨B267, hi363, e364, e365, e366, c_0, c_1, c_2, c_3, c_4, c_5, c_6, c_7, c_8, c_9, fun _ => rfl, c_11⟩
     refine X6 (fun S F w378 hS hbef hcl hI => ?_) ?_
     ·
      obtain ⟨B267, hi379, e380, e381, e382, c_0, c_1, c_2, c_3, c_4, c_5, c_6, c_7, c_8, c_9, c_10, c_11⟩ := hI
      have hb383 := low0 hb166 hi379
      refine Yj (cs := #[.int .i64 0, .int .i64 0, .bool false, .bool false, .bool false]) J3 rfl rfl ?_
      intro B384 w385 hN386
      have hlB384 := Yf hN386 hb383
      have hhiB384 : hi ≤ B384 := Nat.le_trans (Nat.le_trans (Nat.le_of_eq hhi) hi379.size) (Nat.le_of_eq hN386.eq.symm)
      have k387 := (((hS121.blk.grown0 hg124).grown0 hg165).grown0 hi379)
      have lt_B116_B384 := Xq hN386 (k387).lt
      have hb388 := low0 hb383 hN386.grw
      exact Xa ⟨B384, (low0 hi379 hN386.grw), e380, e381, e382, c_0, c_1, c_2, c_3, c_4, c_5, c_6, c_7, c_8, c_9, c_10, fun _ => ⟨rfl, hlB384, hN386.blk, lt_B116_B384, (Nat.le_trans hi379.size (Nat.le_of_eq hN386.eq.symm))⟩⟩
     exact Q5
    ·
     intro S F w389 hall hI
     obtain ⟨B267, hi390, e391, e392, e393, c_0, c_1, c_2, c_3, c_4, c_5, c_6, c_7, c_8, c_9, c_10, c_11⟩ := hI
     have hb394 := low0 hb166 hi390
     obtain e395 := c_0 (hall 0 (by decide))
     obtain e396 := c_1 (hall 1 (by decide))
     obtain e397 := c_2 (hall 2 (by decide))
     obtain e398 := c_3 (hall 3 (by decide))
     obtain e399 := c_4 (hall 4 (by decide))
     obtain e400 := c_5 (hall 5 (by decide))
     obtain e401 := c_6 (hall 6 (by decide))
     obtain e402 := c_7 (hall 7 (by decide))
     obtain e403 := c_8 (hall 8 (by decide))
     obtain e404 := c_9 (hall 9 (by decide))
     obtain e405 := c_10 (hall 10 (by decide))
     obtain ⟨e406, hlB267, kb_B267, lt_B116_B267, hk_B267⟩ := c_11 (hall 11 (by decide))
     refine Xz (vs := [.int .i64 ((rAt (mAt ms106 ((q107.run - 1).toNat)).t.slots ((q107.a).toNat)).th), .int .i64 ((rAt (mAt ms106 ((q107.run - 1).toNat)).t.slots ((q107.a).toNat)).ve), .bool ((rAt (mAt ms106 ((q107.run - 1).toNat)).t.slots ((q107.a).toNat)).rd), .bool ((rAt (mAt ms106 ((q107.run - 1).toNat)).t.slots ((q107.a).toNat)).wr), .bool ((rAt (mAt ms106 ((q107.run - 1).toNat)).t.slots ((q107.a).toNat)).wk)]) (cs' := #[.int .i64 ((rAt (mAt ms106 ((q107.run - 1).toNat)).t.slots ((q107.a).toNat)).th), .int .i64 ((rAt (mAt ms106 ((q107.run - 1).toNat)).t.slots ((q107.a).toNat)).ve), .bool ((rAt (mAt ms106 ((q107.run - 1).toNat)).t.slots ((q107.a).toNat)).rd), .bool ((rAt (mAt ms106 ((q107.run - 1).toNat)).t.slots ((q107.a).toNat)).wr), .bool ((rAt (mAt ms106 ((q107.run - 1).toNat)).t.slots ((q107.a).toNat)).wk)]) Y8 e406 e405 rfl (by simp [Value.oneCell']) kb_B267 (Nat.le_of_ble_eq_true rfl) rfl ?_
     intro w407 hS408
     have hb409 := low1 hb394 hS408.grw (by omega)
     refine Xa ?_
     refine Xv ?_
     refine Xb ?_
     refine Xc (v := .slice (some ⟨B104, 0, none⟩) ms106.length cap105) e392 rfl ?_
     refine Xd (o' := 1) Zk e393 rfl rfl ?_
     have k410 := ((((hS121.blk.grown0 hg124).grown0 hg165).grown0 hi390).grown hS408.grw (Xf (by omega)))
     refine Xi (v := .int .i64 q107.run) X3 rfl (k410.cell rfl) rfl ?_
     refine Xd (o' := 0) Yp e406 rfl rfl ?_
     refine Xi (v := .int .i64 ((rAt (mAt ms106 ((q107.run - 1).toNat)).t.slots ((q107.a).toNat)).th)) X3 rfl (hS408.blk.cell rfl) rfl ?_
     have hTG411 := (TabG.ge (TabG.low hTG178 hi390) hS408.grw hTH (by omega))
     refine Xn (vs := [.slice (some ⟨B104, 0, none⟩) ms106.length cap105, .int .i64 q107.run, .int .i64 ((rAt (mAt ms106 ((q107.run - 1).toNat)).t.slots ((q107.a).toNat)).th)]) P8 (Xg rfl (Xg rfl (Xg rfl Xm))) rfl (K3 q107.run ((rAt (mAt ms106 ((q107.run - 1).toNat)).t.slots ((q107.a).toNat)).th) (by omega) _ ms106 _ _ (TabG.at hTG411) hTl115 (by omega)) ?_
     rintro _ w412 ⟨rfl, hg413⟩
     have hb414 := low0 hb409 hg413
     refine Xh (v := .bool (chkSees (tabT ms106) q107.run ((rAt (mAt ms106 ((q107.run - 1).toNat)).t.slots ((q107.a).toNat)).th))) rfl rfl ?_
     refine Xa ?_
     refine Xb ?_
     refine Xc (v := .slice (some ⟨B104, 0, none⟩) ms106.length cap105) e392 rfl ?_
     refine Xd (o' := 1) Zk e393 rfl rfl ?_
     have k415 := (k410.grown0 hg413)
     refine Xi (v := .int .i64 q107.run) X3 rfl (k415.cell rfl) rfl ?_
     refine Xd (o' := 0) Yp e406 rfl rfl ?_
     have k416 := (hS408.blk.grown0 hg413)
     refine Xi (v := .int .i64 ((rAt (mAt ms106 ((q107.run - 1).toNat)).t.slots ((q107.a).toNat)).th)) X3 rfl (k416.cell rfl) rfl ?_
     have hTG417 := (TabG.low hTG411 hg413)
     refine Xn (vs := [.slice (some ⟨B104, 0, none⟩) ms106.length cap105, .int .i64 q107.run, .int .i64 ((rAt (mAt ms106 ((q107.run - 1).toNat)).t.slots ((q107.a).toNat)).th)]) Lq (Xg rfl (Xg rfl (Xg rfl Xm))) rfl (Ja q107.run ((rAt (mAt ms106 ((q107.run - 1).toNat)).t.slots ((q107.a).toNat)).th) (by omega) _ ms106 _ _ (TabG.at hTG417) hTl115 (by omega)) ?_
     rintro _ w418 ⟨rfl, hg419⟩
     have hb420 := low0 hb414 hg419
     refine Xh (v := .bool (chkTouches (tabT ms106) q107.run ((rAt (mAt ms106 ((q107.run - 1).toNat)).t.slots ((q107.a).toNat)).th))) rfl rfl ?_
     refine Xa ?_
     refine Xt ?_
     refine X2 (fun f' w' => (f' 2 = .bool false ∧ f' 4 = .pointer (some ⟨B116, 0, none⟩) ∧ f' 6 = .pointer (some ⟨B267, 0, none⟩) ∧ f' 7 = .bool (chkSees (tabT ms106) q107.run ((rAt (mAt ms106 ((q107.run - 1).toNat)).t.slots ((q107.a).toNat)).th)) ∧ f' 8 = .bool (chkTouches (tabT ms106) q107.run ((rAt (mAt ms106 ((q107.run - 1).toNat)).t.slots ((q107.a).toNat)).th)) ∧ f' 69 = .bool ((decide (q107.kind = 1)) || (decide (q107.kind = 4)))) ∧ w418 = w') ?_ ?_
     ·
      refine Xd (o' := 0) Zm e393 rfl rfl ?_
      have k423 := (k415.grown0 hg419)
      refine Xi (v := .int .i64 q107.kind) X3 rfl (k423.cell rfl) rfl ?_
      refine X4 (q := decide (q107.kind = 1)) rfl rfl rfl rfl ?_
      refine Xc (v := .bool (decide (q107.kind = 1))) rfl rfl ?_
      rcases Yb (decide (q107.kind = 1)) with h424 | h424
      ·
       have h425 := of_decide_eq_true h424
       iterate 3 refine Xk rfl rfl rfl h424 rfl ?_
       refine Xr (v := .bool true) rfl h424 rfl rfl ?_
       exact Xa ⟨⟨e391, e393, e406, rfl, rfl, (congrArg Value.bool (by first | (simp only [h101, h167, h173, h174, h175, h176, h187, h424, hT179, hc180, hkd181, hp177, b0, b1, b2, b3, b4, b5, b6, b7, b8, b9]; done) | simp [h101, h167, h173, h174, h175, h176, h187, h424, hT179, hc180, hkd181, hp177]))⟩, rfl⟩
      ·
       have h426 := of_decide_eq_false h424
       refine Xe rfl rfl rfl h424 ?_
       refine Xd (o' := 0) Zm e393 rfl rfl ?_
       refine Xe rfl rfl rfl h424 ?_
       refine Xi (v := .int .i64 q107.kind) X3 rfl (k423.cell rfl) rfl ?_
       refine Xe rfl rfl rfl h424 ?_
       refine X4 (q := decide (q107.kind = 4)) rfl rfl rfl rfl ?_
       refine Xl (v := .bool (decide (q107.kind = 4))) rfl h424 rfl rfl ?_
       exact Xa ⟨⟨e391, e393, e406, rfl, rfl, (congrArg Value.bool (by first | (simp only [h101, h167, h173, h174, h175, h176, h187, h424, hT179, hc180, hkd181, hp177, b0, b1, b2, b3, b4, b5, b6, b7, b8, b9]; done) | simp [h101, h167, h173, h174, h175, h176, h187, h424, hT179, hc180, hkd181, hp177]))⟩, rfl⟩
     ·
      rintro f427 w428 ⟨⟨e429, e430, e431, e432, e433, e434⟩, rfl⟩
      refine Xw e434 (fun h435 => ?_) (fun h435 => ?_)
      ·
       refine X2 (fun f' w' => (f' 2 = .bool ((rAt (mAt ms106 ((q107.run - 1).toNat)).t.slots ((q107.a).toNat)).rd && chkSees (tabT ms106) q107.run ((rAt (mAt ms106 ((q107.run - 1).toNat)).t.slots ((q107.a).toNat)).th)) ∧ f' 4 = .pointer (some ⟨B116, 0, none⟩) ∧ f' 6 = .pointer (some ⟨B267, 0, none⟩) ∧ f' 7 = .bool (chkSees (tabT ms106) q107.run ((rAt (mAt ms106 ((q107.run - 1).toNat)).t.slots ((q107.a).toNat)).th)) ∧ f' 8 = .bool (chkTouches (tabT ms106) q107.run ((rAt (mAt ms106 ((q107.run - 1).toNat)).t.slots ((q107.a).toNat)).th))) ∧ w418 = w') ?_ ?_
       ·
        refine Xd (o' := 2) Jj e431 rfl rfl ?_
        have k438 := (k416.grown0 hg419)
        refine Xi (v := .bool ((rAt (mAt ms106 ((q107.run - 1).toNat)).t.slots ((q107.a).toNat)).rd)) Zv rfl (k438.cell rfl) rfl ?_
        refine Xc (v := .bool ((rAt (mAt ms106 ((q107.run - 1).toNat)).t.slots ((q107.a).toNat)).rd)) rfl rfl ?_
        rcases Yb ((rAt (mAt ms106 ((q107.run - 1).toNat)).t.slots ((q107.a).toNat)).rd) with h439 | h439
        ·
         refine Xe rfl rfl rfl h439 ?_
         refine Xc (v := .bool (chkSees (tabT ms106) q107.run ((rAt (mAt ms106 ((q107.run - 1).toNat)).t.slots ((q107.a).toNat)).th))) e432 rfl ?_
         refine Xr (v := .bool (chkSees (tabT ms106) q107.run ((rAt (mAt ms106 ((q107.run - 1).toNat)).t.slots ((q107.a).toNat)).th))) rfl h439 rfl rfl ?_
         refine Xh (v := .bool (chkSees (tabT ms106) q107.run ((rAt (mAt ms106 ((q107.run - 1).toNat)).t.slots ((q107.a).toNat)).th))) rfl rfl ?_
         exact Xa ⟨⟨(congrArg Value.bool (by first | (simp only [h101, h167, h173, h174, h175, h176, h187, h435, h439, hT179, hc180, hkd181, hp177, b0, b1, b2, b3, b4, b5, b6, b7, b8, b9]; done) | simp [h101, h167, h173, h174, h175, h176, h187, h435, h439, hT179, hc180, hkd181, hp177])), e430, e431, e432, e433⟩, rfl⟩
        ·
         refine Xk rfl rfl rfl h439 rfl ?_
         refine Xl (v := .bool false) rfl h439 rfl rfl ?_
         refine Xh (v := .bool false) rfl rfl ?_
         exact Xa ⟨⟨(congrArg Value.bool (by first | (simp only [h101, h167, h173, h174, h175, h176, h187, h435, h439, hT179, hc180, hkd181, hp177, b0, b1, b2, b3, b4, b5, b6, b7, b8, b9]; done) | simp [h101, h167, h173, h174, h175, h176, h187, h435, h439, hT179, hc180, hkd181, hp177])), e430, e431, e432, e433⟩, rfl⟩
       ·
        rintro f440 w441 ⟨⟨e442, e443, e444, e445, e446⟩, rfl⟩
        refine Xs ?_
        refine Yi ?_
        refine ⟨.bool ((rAt (mAt ms106 ((q107.run - 1).toNat)).t.slots ((q107.a).toNat)).rd && chkSees (tabT ms106) q107.run ((rAt (mAt ms106 ((q107.run - 1).toNat)).t.slots ((q107.a).toNat)).th)), Yq rfl e442, ?_, hb420⟩
        have hL := Ht (ts := tabT ms106) (q := q107) (of_decide_eq_true h176) (by simpa using h435)
        rw [← Q1] at hL
        exact congrArg Value.bool hL
      ·
       have h447 := Qx h435
       have h448 := of_decide_eq_false h447
       have h449 := Qy h435
       have h450 := of_decide_eq_false h449
       refine Xy ?_
       refine Xv ?_
       refine X2 (fun f' w' => (f' 2 = .bool (((rAt (mAt ms106 ((q107.run - 1).toNat)).t.slots ((q107.a).toNat)).wr && chkTouches (tabT ms106) q107.run ((rAt (mAt ms106 ((q107.run - 1).toNat)).t.slots ((q107.a).toNat)).th)) && ((!(decide (q107.kind = 7))) || ((rAt (mAt ms106 ((q107.run - 1).toNat)).t.slots ((q107.a).toNat)).rd && chkSees (tabT ms106) q107.run ((rAt (mAt ms106 ((q107.run - 1).toNat)).t.slots ((q107.a).toNat)).th))))) ∧ w418 = w') ?_ ?_
       ·
        refine Xd (o' := 3) Qv e431 rfl rfl ?_
        have k454 := (k416.grown0 hg419)
        refine Xi (v := .bool ((rAt (mAt ms106 ((q107.run - 1).toNat)).t.slots ((q107.a).toNat)).wr)) Zv rfl (k454.cell rfl) rfl ?_
        refine Xc (v := .bool ((rAt (mAt ms106 ((q107.run - 1).toNat)).t.slots ((q107.a).toNat)).wr)) rfl rfl ?_
        rcases Yb ((rAt (mAt ms106 ((q107.run - 1).toNat)).t.slots ((q107.a).toNat)).wr) with h455 | h455
        ·
         refine Xe rfl rfl rfl h455 ?_
         refine Xc (v := .bool (chkTouches (tabT ms106) q107.run ((rAt (mAt ms106 ((q107.run - 1).toNat)).t.slots ((q107.a).toNat)).th))) e433 rfl ?_
         refine Xr (v := .bool (chkTouches (tabT ms106) q107.run ((rAt (mAt ms106 ((q107.run - 1).toNat)).t.slots ((q107.a).toNat)).th))) rfl h455 rfl rfl ?_
         refine Xc (v := .bool (chkTouches (tabT ms106) q107.run ((rAt (mAt ms106 ((q107.run - 1).toNat)).t.slots ((q107.a).toNat)).th))) rfl rfl ?_
         rcases Yb (chkTouches (tabT ms106) q107.run ((rAt (mAt ms106 ((q107.run - 1).toNat)).t.slots ((q107.a).toNat)).th)) with h456 | h456
         ·
          refine Xe rfl rfl rfl h456 ?_
          refine Xd (o' := 0) Zm e430 rfl rfl ?_
          refine Xe rfl rfl rfl h456 ?_
          have k457 := (k415.grown0 hg419)
          refine Xi (v := .int .i64 q107.kind) X3 rfl (k457.cell rfl) rfl ?_
          refine Xe rfl rfl rfl h456 ?_
          refine Y7 (q := !(decide (q107.kind = 7))) rfl rfl rfl rfl ?_
          refine Xe rfl rfl rfl h456 ?_
          refine Xc (v := .bool (!(decide (q107.kind = 7)))) rfl rfl ?_
          rcases Yb (!(decide (q107.kind = 7))) with h458 | h458
          ·
           have h459 := Zn h458
           have h460 := of_decide_eq_false h459
           iterate 3 refine Xk rfl rfl rfl h458 rfl ?_
           refine Yg rfl rfl rfl rfl ?_
           refine Xk rfl rfl rfl h458 rfl ?_
           refine Xe rfl rfl rfl h456 ?_
           refine Xr (v := .bool true) rfl h458 rfl rfl ?_
           refine Xr (v := .bool true) rfl h456 rfl rfl ?_
           refine Xh (v := .bool true) rfl rfl ?_
           exact Xa ⟨(congrArg Value.bool (by first | (simp only [h101, h167, h173, h174, h175, h176, h187, h435, h447, h449, h455, h456, h458, h459, hT179, hc180, hkd181, hp177, b0, b1, b2, b3, b4, b5, b6, b7, b8, b9]; done) | simp [h101, h167, h173, h174, h175, h176, h187, h435, h447, h449, h455, h456, h458, h459, hT179, hc180, hkd181, hp177])), rfl⟩
          ·
           have h461 := Zh h458
           have h462 := of_decide_eq_true h461
           refine Xe rfl rfl rfl h458 ?_
           refine Xd (o' := 2) Jj e431 rfl rfl ?_
           refine Xe rfl rfl rfl h458 ?_
           refine Xi (v := .bool ((rAt (mAt ms106 ((q107.run - 1).toNat)).t.slots ((q107.a).toNat)).rd)) Zv rfl (k454.cell rfl) rfl ?_
           refine Xe rfl rfl rfl h458 ?_
           refine Xc (v := .bool ((rAt (mAt ms106 ((q107.run - 1).toNat)).t.slots ((q107.a).toNat)).rd)) rfl rfl ?_
           rcases Yb ((rAt (mAt ms106 ((q107.run - 1).toNat)).t.slots ((q107.a).toNat)).rd) with h463 | h463
           ·
            refine Xe rfl rfl rfl h463 ?_
            refine Xc (v := .bool (chkSees (tabT ms106) q107.run ((rAt (mAt ms106 ((q107.run - 1).toNat)).t.slots ((q107.a).toNat)).th))) e432 rfl ?_
            refine Xe rfl rfl rfl h458 ?_
            refine Xr (v := .bool (chkSees (tabT ms106) q107.run ((rAt (mAt ms106 ((q107.run - 1).toNat)).t.slots ((q107.a).toNat)).th))) rfl h463 rfl rfl ?_
            refine Xe rfl rfl rfl h456 ?_
            refine Xl (v := .bool (chkSees (tabT ms106) q107.run ((rAt (mAt ms106 ((q107.run - 1).toNat)).t.slots ((q107.a).toNat)).th))) rfl h458 rfl rfl ?_
            refine Xr (v := .bool (chkSees (tabT ms106) q107.run ((rAt (mAt ms106 ((q107.run - 1).toNat)).t.slots ((q107.a).toNat)).th))) rfl h456 rfl rfl ?_
            refine Xh (v := .bool (chkSees (tabT ms106) q107.run ((rAt (mAt ms106 ((q107.run - 1).toNat)).t.slots ((q107.a).toNat)).th))) rfl rfl ?_
            exact Xa ⟨(congrArg Value.bool (by first | (simp only [h101, h167, h173, h174, h175, h176, h187, h435, h447, h449, h455, h456, h458, h461, h463, hT179, hc180, hkd181, hp177, b0, b1, b2, b3, b4, b5, b6, b7, b8, b9]; done) | simp [h101, h167, h173, h174, h175, h176, h187, h435, h447, h449, h455, h456, h458, h461, h463, hT179, hc180, hkd181, hp177])), rfl⟩
           ·
            refine Xk rfl rfl rfl h463 rfl ?_
            refine Xe rfl rfl rfl h458 ?_
            refine Xl (v := .bool false) rfl h463 rfl rfl ?_
            refine Xe rfl rfl rfl h456 ?_
            refine Xl (v := .bool false) rfl h458 rfl rfl ?_
            refine Xr (v := .bool false) rfl h456 rfl rfl ?_
            refine Xh (v := .bool false) rfl rfl ?_
            exact Xa ⟨(congrArg Value.bool (by first | (simp only [h101, h167, h173, h174, h175, h176, h187, h435, h447, h449, h455, h456, h458, h461, h463, hT179, hc180, hkd181, hp177, b0, b1, b2, b3, b4, b5, b6, b7, b8, b9]; done) | simp [h101, h167, h173, h174, h175, h176, h187, h435, h447, h449, h455, h456, h458, h461, h463, hT179, hc180, hkd181, hp177])), rfl⟩
         ·
          iterate 4 refine Xk rfl rfl rfl h456 rfl ?_
          iterate 5 refine Yg rfl rfl rfl rfl ?_
          refine Xk rfl rfl rfl h456 rfl ?_
          refine Xl (v := .bool false) rfl h456 rfl rfl ?_
          refine Xh (v := .bool false) rfl rfl ?_
          exact Xa ⟨(congrArg Value.bool (by first | (simp only [h101, h167, h173, h174, h175, h176, h187, h435, h447, h449, h455, h456, hT179, hc180, hkd181, hp177, b0, b1, b2, b3, b4, b5, b6, b7, b8, b9]; done) | simp [h101, h167, h173, h174, h175, h176, h187, h435, h447, h449, h455, h456, hT179, hc180, hkd181, hp177])), rfl⟩
        ·
         refine Xk rfl rfl rfl h455 rfl ?_
         refine Xl (v := .bool false) rfl h455 rfl rfl ?_
         refine Xc (v := .bool false) rfl rfl ?_
         iterate 4 refine Xk rfl rfl rfl rfl rfl ?_
         iterate 5 refine Yg rfl rfl rfl rfl ?_
         refine Xk rfl rfl rfl rfl rfl ?_
         refine Xl (v := .bool false) rfl rfl rfl rfl ?_
         refine Xh (v := .bool false) rfl rfl ?_
         exact Xa ⟨(congrArg Value.bool (by first | (simp only [h101, h167, h173, h174, h175, h176, h187, h435, h447, h449, h455, hT179, hc180, hkd181, hp177, b0, b1, b2, b3, b4, b5, b6, b7, b8, b9]; done) | simp [h101, h167, h173, h174, h175, h176, h187, h435, h447, h449, h455, hT179, hc180, hkd181, hp177])), rfl⟩
       ·
        rintro f464 w465 ⟨e466, rfl⟩
        refine Xs ?_
        refine ⟨.bool (((rAt (mAt ms106 ((q107.run - 1).toNat)).t.slots ((q107.a).toNat)).wr && chkTouches (tabT ms106) q107.run ((rAt (mAt ms106 ((q107.run - 1).toNat)).t.slots ((q107.a).toNat)).th)) && ((!(decide (q107.kind = 7))) || ((rAt (mAt ms106 ((q107.run - 1).toNat)).t.slots ((q107.a).toNat)).rd && chkSees (tabT ms106) q107.run ((rAt (mAt ms106 ((q107.run - 1).toNat)).t.slots ((q107.a).toNat)).th)))), Yq rfl e466, ?_, hb420⟩
        have hL := Hd (ts := tabT ms106) (q := q107) (of_decide_eq_true h176) (by omega) (by simpa using h435)
        rw [← Q1] at hL
        exact congrArg Value.bool (Bh hL)
theorem law_FnCheckGone (bs : List Int) (a : Option Addr) (c : Nat) (w : World) (hs0 : SlAt w a 1 (bs.map bcell)) (hb : ∀ b ∈ bs, 0 ≤ b ∧ b ≤ 255) (hn : bs.length ≤ 9223372036854775807) (hc : bs.length ≤ c) (hE : ErrT w) : CallsR Tryd.prog 5 #[.slice a bs.length c] w (fun v w' => v = .bool true ∧ w.grownBy w' none) := by
 refine X0 (n := 83) Tryd.func5 rfl Tryd.ntmps5 rfl ?_
 have hb0 := World.grownBy.refl w none
 have hs := SlAt.lt Vc (by omega) hs0
 refine Xb ?_
 refine Xh (v := .bool false) rfl rfl ?_
 refine Xa ?_
 refine Xt ?_
 refine Xb ?_
 refine Xc (v := .slice a bs.length c) rfl rfl ?_
 refine Ym (by kernel_rfl) rfl rfl ?_
 refine Zq (q := decide (1048576 < (bs.length : Int))) rfl rfl rfl rfl ?_
 refine Xa ?_
 refine Xw rfl (fun h101 => ?_) (fun h101 => ?_)
 ·
  have h102 := of_decide_eq_true h101
  refine Xb ?_
  refine Xh (v := .bool true) rfl rfl ?_
  refine Xa ?_
  refine Xs ?_
  refine Yi ?_
  refine ⟨.bool true, Yq rfl rfl, ?_, hb0⟩
  rfl
 ·
  have h103 := of_decide_eq_false h101
  refine Xy ?_
  refine Xv ?_
  refine Xb ?_
  refine Xc (v := .slice a bs.length c) rfl rfl ?_
  refine Xn (vs := [.slice a bs.length c]) P1 (Xg rfl Xm) rfl (Jt bs a c _ (SlAt.low hs0 hb0) hb (by omega) (by omega)) ?_
  rintro _ w113 ⟨B104, cap105, ms106, q107, rfl, hTG108, hTS109, hTn110, hq111, hg112⟩
  have hb114 := low0 hb0 hg112
  have hTl115 := hTS109.len
  refine Xc (v := .tuple #[.slice (some ⟨B104, 0, none⟩) ms106.length cap105, .agg #[.int .i64 q107.kind, .int .i64 q107.run, .int .i64 q107.a, .int .i64 q107.b, .int .i64 q107.n]]) rfl rfl ?_
  refine Yz (v := .slice (some ⟨B104, 0, none⟩) ms106.length cap105) rfl rfl rfl ?_
  refine Yz (v := .agg #[.int .i64 q107.kind, .int .i64 q107.run, .int .i64 q107.a, .int .i64 q107.b, .int .i64 q107.n]) rfl rfl rfl ?_
  refine Yj (cs := #[.int .i64 0, .int .i64 0, .int .i64 0, .int .i64 0, .int .i64 0]) Vw rfl rfl ?_
  intro B116 w117 hN118
  have hlB116 := Yf hN118 hb114
  have hb119 := low0 hb114 hN118.grw
  refine Xh (v := .slice (some ⟨B104, 0, none⟩) ms106.length cap105) rfl rfl ?_
  refine Xz (vs := [.int .i64 q107.kind, .int .i64 q107.run, .int .i64 q107.a, .int .i64 q107.b, .int .i64 q107.n]) (cs' := #[.int .i64 q107.kind, .int .i64 q107.run, .int .i64 q107.a, .int .i64 q107.b, .int .i64 q107.n]) Yv rfl rfl rfl (by simp [Value.oneCell']) hN118.blk (Nat.le_of_ble_eq_true rfl) rfl ?_
  intro w120 hS121
  have hb122 := low1 hb119 hS121.grw (by omega)
  refine Xa ?_
  refine Xb ?_
  refine Xc (v := .slice (some ⟨B104, 0, none⟩) ms106.length cap105) rfl rfl ?_
  refine Xu (vs := [.int .i64 q107.kind, .int .i64 q107.run, .int .i64 q107.a, .int .i64 q107.b, .int .i64 q107.n]) Yv rfl rfl (hS121.blk.rangeL 0 5 rfl) rfl ?_
  refine Xn (vs := [.slice (some ⟨B104, 0, none⟩) ms106.length cap105, .agg #[.int .i64 q107.kind, .int .i64 q107.run, .int .i64 q107.a, .int .i64 q107.b, .int .i64 q107.n]]) Wk (Xg rfl (Xg rfl Xm)) rfl (Q8 q107 _ ms106 _ _ (TabG.at (TabG.low hTG108 (low1 hN118.grw hS121.grw (Nat.le_trans ((World.grownBy.refl _ none)).size (Nat.le_of_eq hN118.eq.symm))))) hTl115 (by omega) (ErrT.grown0 hE hb122)) ?_
  rintro _ w123 ⟨rfl, hg124⟩
  have hb125 := low0 hb122 hg124
  have hck126 := Z4 (ts := tabT ms106) (q := q107)
  refine Xh (v := .int .i64 (chkAll (tabT ms106) q107)) rfl rfl ?_
  refine Xa ?_
  refine Xt ?_
  refine X2 (fun f' w' => (f' 2 = .bool false ∧ f' 3 = .slice (some ⟨B104, 0, none⟩) ms106.length cap105 ∧ f' 4 = .pointer (some ⟨B116, 0, none⟩) ∧ f' 5 = .int .i64 (chkAll (tabT ms106) q107) ∧ f' 37 = .bool ((false || (decide (q107.kind = 3))) || ((!(decide (chkAll (tabT ms106) q107 = (-3)))) && (!(decide (chkAll (tabT ms106) q107 = 0)))))) ∧ w123.grownBy w' none) ?_ ?_
  ·
   refine Xc (v := .int .i64 (chkAll (tabT ms106) q107)) rfl rfl ?_
   refine Xc (v := .slice (some ⟨B104, 0, none⟩) ms106.length cap105) rfl rfl ?_
   have k139 := (hS121.blk.grown0 hg124)
   refine Xu (vs := [.int .i64 q107.kind, .int .i64 q107.run, .int .i64 q107.a, .int .i64 q107.b, .int .i64 q107.n]) Yv rfl rfl (k139.rangeL 0 5 rfl) rfl ?_
   refine Xn (vs := [.slice (some ⟨B104, 0, none⟩) ms106.length cap105, .agg #[.int .i64 q107.kind, .int .i64 q107.run, .int .i64 q107.a, .int .i64 q107.b, .int .i64 q107.n]]) U2 (Xg rfl (Xg rfl Xm)) rfl (Qp q107 _ ms106 _ _ (TabG.at (TabG.low hTG108 (low0 (low1 hN118.grw hS121.grw (Nat.le_trans ((World.grownBy.refl _ none)).size (Nat.le_of_eq hN118.eq.symm))) hg124))) hTl115 (by omega)) ?_
   rintro _ w140 ⟨rfl, hg141⟩
   have hb142 := low0 hb125 hg141
   have hck143 := Z4 (ts := tabT ms106) (q := q107)
   refine Y7 (q := false) rfl rfl (by simp) rfl ?_
   refine Xc (v := .bool false) rfl rfl ?_
   refine Xe rfl rfl rfl rfl ?_
   refine Xd (o' := 0) Zm rfl rfl rfl ?_
   refine Xe rfl rfl rfl rfl ?_
   have k144 := (k139.grown0 hg141)
   refine Xi (v := .int .i64 q107.kind) X3 rfl (k144.cell rfl) rfl ?_
   refine Xe rfl rfl rfl rfl ?_
   refine X4 (q := decide (q107.kind = 3)) rfl rfl rfl rfl ?_
   refine Xl (v := .bool (decide (q107.kind = 3))) rfl rfl rfl rfl ?_
   refine Xc (v := .bool (decide (q107.kind = 3))) rfl rfl ?_
   rcases Yb (decide (q107.kind = 3)) with h145 | h145
   ·
    have h146 := of_decide_eq_true h145
    iterate 3 refine Xk rfl rfl rfl h145 rfl ?_
    refine Yg rfl rfl rfl rfl ?_
    refine Yg rfl rfl rfl rfl ?_
    refine Xk rfl rfl rfl h145 rfl ?_
    refine Xr (v := .bool true) rfl h145 rfl rfl ?_
    exact Xa ⟨⟨rfl, rfl, rfl, rfl, (congrArg Value.bool (by first | (simp only [h101, h145, b0, b1, b2, b3, b4, b5, b6, b7, b8, b9]; done) | simp [h101, h145]))⟩, hg141⟩
   ·
    have h147 := of_decide_eq_false h145
    refine Xe rfl rfl rfl h145 ?_
    refine Xc (v := .int .i64 (chkAll (tabT ms106) q107)) rfl rfl ?_
    refine Xe rfl rfl rfl h145 ?_
    refine Y7 (q := !(decide (chkAll (tabT ms106) q107 = (-3)))) rfl rfl rfl rfl ?_
    refine Xe rfl rfl rfl h145 ?_
    refine Xc (v := .bool (!(decide (chkAll (tabT ms106) q107 = (-3))))) rfl rfl ?_
    rcases Yb (!(decide (chkAll (tabT ms106) q107 = (-3)))) with h148 | h148
    ·
     have h149 := Zn h148
     have h150 := of_decide_eq_false h149
     refine Xe rfl rfl rfl h148 ?_
     refine Xc (v := .int .i64 (chkAll (tabT ms106) q107)) rfl rfl ?_
     refine Xe rfl rfl rfl h148 ?_
     refine Y7 (q := !(decide (chkAll (tabT ms106) q107 = 0))) rfl rfl rfl rfl ?_
     refine Xe rfl rfl rfl h145 ?_
     refine Xr (v := .bool (!(decide (chkAll (tabT ms106) q107 = 0)))) rfl h148 rfl rfl ?_
     refine Xl (v := .bool (!(decide (chkAll (tabT ms106) q107 = 0)))) rfl h145 rfl rfl ?_
     exact Xa ⟨⟨rfl, rfl, rfl, rfl, (congrArg Value.bool (by first | (simp only [h101, h145, h148, h149, b0, b1, b2, b3, b4, b5, b6, b7, b8, b9]; done) | simp [h101, h145, h148, h149]))⟩, hg141⟩
    ·
     have h151 := Zh h148
     have hp152 : callPoss (tabT ms106) q107 = true := Zo (by have := of_decide_eq_true h151; omega)
     obtain ⟨hi, hhi⟩ : ∃ n, n = w140.heap.size := ⟨_, rfl⟩
     have hTG153 := (TabG.low hTG108 (low0 (low0 (low1 hN118.grw hS121.grw (Nat.le_trans ((World.grownBy.refl _ none)).size (Nat.le_of_eq hN118.eq.symm))) hg124) hg141))
     have hTH := TabG.hi (TabG.low hTG108 (low0 (low0 (low1 hN118.grw hS121.grw (Nat.le_trans ((World.grownBy.refl _ none)).size (Nat.le_of_eq hN118.eq.symm))) hg124) hg141))
     rw [← hhi] at hTH
     obtain ⟨hT154, hc155, hkd156⟩ := Zs hp152
     have hco157 := Z2 hc155
     have hkp158 := (Z5 hkd156).1
     have h4159 := Jc hT154 hkd156
     have hml160 := K7 hT154
     have h161 := of_decide_eq_true h151
     refine Xk rfl rfl rfl h148 rfl ?_
     refine Xk rfl rfl rfl h148 rfl ?_
     refine Xe rfl rfl rfl h145 ?_
     refine Xl (v := .bool false) rfl h148 rfl rfl ?_
     refine Xl (v := .bool false) rfl h145 rfl rfl ?_
     exact Xa ⟨⟨rfl, rfl, rfl, rfl, (congrArg Value.bool (by first | (simp only [h101, h145, h148, h151, hT154, hc155, hkd156, hp152, b0, b1, b2, b3, b4, b5, b6, b7, b8, b9]; done) | simp [h101, h145, h148, h151, hT154, hc155, hkd156, hp152]))⟩, hg141⟩
  ·
   rintro f162 w163 ⟨⟨e164, e165, e166, e167, e168⟩, hg169⟩
   have hb170 := low0 hb125 hg169
   refine Xw e168 (fun h171 => ?_) (fun h171 => ?_)
   ·
    refine Xb ?_
    refine Xc (v := .int .i64 (chkAll (tabT ms106) q107)) e167 rfl ?_
    refine Xc (v := .slice (some ⟨B104, 0, none⟩) ms106.length cap105) e165 rfl ?_
    have k172 := ((hS121.blk.grown0 hg124).grown0 hg169)
    refine Xu (vs := [.int .i64 q107.kind, .int .i64 q107.run, .int .i64 q107.a, .int .i64 q107.b, .int .i64 q107.n]) Yv e166 rfl (k172.rangeL 0 5 rfl) rfl ?_
    refine Xn (vs := [.slice (some ⟨B104, 0, none⟩) ms106.length cap105, .agg #[.int .i64 q107.kind, .int .i64 q107.run, .int .i64 q107.a, .int .i64 q107.b, .int .i64 q107.n]]) U2 (Xg rfl (Xg rfl Xm)) rfl (Qp q107 _ ms106 _ _ (TabG.at (TabG.low hTG108 (low0 (low0 (low1 hN118.grw hS121.grw (Nat.le_trans ((World.grownBy.refl _ none)).size (Nat.le_of_eq hN118.eq.symm))) hg124) hg169))) hTl115 (by omega)) ?_
    rintro _ w173 ⟨rfl, hg174⟩
    have hb175 := low0 hb170 hg174
    have hck176 := Z4 (ts := tabT ms106) (q := q107)
    refine X4 (q := true) rfl rfl (by simp) rfl ?_
    refine Xh (v := .bool true) rfl rfl ?_
    refine Xa ?_
    refine Xs ?_
    refine Yi ?_
    refine ⟨.bool true, Yq rfl rfl, ?_, hb175⟩
    rfl
   ·
    have h177 := Qx h171
    have h178 := Qx h177
    have h179 := Qy h177
    have h180 := of_decide_eq_false h179
    have h181 := Qy h171
    have ho182 := Sg h181
    have hp183 : callPoss (tabT ms106) q107 = true := Zo (by omega)
    obtain ⟨hi, hhi⟩ : ∃ n, n = w163.heap.size := ⟨_, rfl⟩
    have hTG184 := (TabG.low hTG108 (low0 (low0 (low1 hN118.grw hS121.grw (Nat.le_trans ((World.grownBy.refl _ none)).size (Nat.le_of_eq hN118.eq.symm))) hg124) hg169))
    have hTH := TabG.hi (TabG.low hTG108 (low0 (low0 (low1 hN118.grw hS121.grw (Nat.le_trans ((World.grownBy.refl _ none)).size (Nat.le_of_eq hN118.eq.symm))) hg124) hg169))
    rw [← hhi] at hTH
    obtain ⟨hT185, hc186, hkd187⟩ := Zs hp183
    have hco188 := Z2 hc186
    have hkp189 := (Z5 hkd187).1
    have h4190 := Jc hT185 hkd187
    have hml191 := K7 hT185
    refine Xy ?_
    refine Xv ?_
    refine Xt ?_
    obtain ⟨b247, q248, o249, ha250, ho251, hr252⟩ := SlAt.at (TabG.at hTG184).1 (Yn (Ya (show (q107.run - 1).toNat < ms106.length by omega)))
    have hle253 := TabLen.at hTl115 (Ya (show (q107.run - 1).toNat < ms106.length by omega))
    obtain ⟨b257, q258, o259, ha260, ho261, hr262⟩ := SlAt.at (TabAt.th (TabG.at hTG184) (Ya (show (q107.run - 1).toNat < ms106.length by omega))).1 (Yn (Qg (show (q107.a).toNat < (mAt ms106 ((q107.run - 1).toNat)).t.slots.length by omega)))
    have hts263 := Ku hT185 (show ((q107.run - 1).toNat) < ms106.length by omega) (show ((q107.a).toNat) < (mAt ms106 ((q107.run - 1).toNat)).t.slots.length by omega)
    have hz274 : hi ≤ w163.heap.size := (Nat.le_of_eq hhi)
    refine Qs (m := 12) [[], [], [1], [1, 2], [0, 1, 2, 3], [0, 1, 2, 3, 4], [0, 1, 2, 3, 4, 5], [], [7], [0, 1, 2, 3, 4, 5, 6, 7, 8], [0, 1, 2, 3, 4, 5, 6, 7, 8, 9], [], [0, 1, 2, 3, 4, 5, 6, 7, 8, 9, 10, 11]] (fun S F w' => ∃ (B270 : Nat), w163.grownBy w' none ∧ F 2 = .bool false ∧ F 3 = .slice (some ⟨B104, 0, none⟩) ms106.length cap105 ∧ F 4 = .pointer (some ⟨B116, 0, none⟩) ∧ F 5 = .int .i64 (chkAll (tabT ms106) q107) ∧ (S 0 = true → F 43 = .slice (some ⟨B104, 0, none⟩) ms106.length cap105) ∧ (S 1 = true → F 44 = .pointer (some ⟨B116, 1, none⟩)) ∧ (S 2 = true → F 45 = .int .i64 q107.run) ∧ (S 3 = true → F 46 = .int .i64 (q107.run - 1)) ∧ (S 4 = true → F 47 = .pointer (some ⟨b247, o249, none⟩)) ∧ (S 5 = true → F 48 = .pointer (some ⟨b247, o249 + 5, none⟩)) ∧ (S 6 = true → F 49 = .slice ((mAt ms106 ((q107.run - 1).toNat)).sa) ((mAt ms106 ((q107.run - 1).toNat)).t.slots.length) ((mAt ms106 ((q107.run - 1).toNat)).sc)) ∧ (S 7 = true → F 50 = .pointer (some ⟨B116, 2, none⟩)) ∧ (S 8 = true → F 51 = .int .i64 q107.a) ∧ (S 9 = true → F 52 = .pointer (some ⟨b257, o259, none⟩)) ∧ (S 10 = true → F 53 = .agg #[.int .i64 ((rAt (mAt ms106 ((q107.run - 1).toNat)).t.slots ((q107.a).toNat)).th), .int .i64 ((rAt (mAt ms106 ((q107.run - 1).toNat)).t.slots ((q107.a).toNat)).ve), .bool ((rAt (mAt ms106 ((q107.run - 1).toNat)).t.slots ((q107.a).toNat)).rd), .bool ((rAt (mAt ms106 ((q107.run - 1).toNat)).t.slots ((q107.a).toNat)).wr), .bool ((rAt (mAt ms106 ((q107.run - 1).toNat)).t.slots ((q107.a).toNat)).wk)]) ∧ (S 11 = true → F 6 = .pointer (some ⟨B270, 0, none⟩) ∧ w.heap.size ≤ B270 ∧ Blk w' B270 37 #[.int .i64 0, .int .i64 0, .bool false, .bool false, .bool false] ∧ B116 < B270 ∧ w163.heap.size ≤ B270)) Zi (by kernel_rfl) ⟨0, Yl _, e164, e165, e166, e167, fun h => X5 h, fun h => X5 h, fun h => X5 h, fun h => X5 h, fun h => X5 h, fun h => X5 h, fun h => X5 h, fun h => X5 h, fun h => X5 h, fun h => X5 h, fun h => X5 h, fun h => X5 h⟩ ?_ ?_
    ·
     refine X6 (fun S F w275 hS hbef hcl hI => ?_) ?_
     ·
      obtain ⟨B270, hi276, e277, e278, e279, e280, c_0, c_1, c_2, c_3, c_4, c_5, c_6, c_7, c_8, c_9, c_10, c_11⟩ := hI
      have hb281 := low0 hb170 hi276
      refine Xc (v := .slice (some ⟨B104, 0, none⟩) ms106.length cap105) e278 rfl ?_
      exact Xa ⟨B270, hi276, e277, e278, e279, e280, fun _ => rfl, c_1, c_2, c_3, fun h => Xx 4 hS hcl rfl h, fun h => Xx 5 hS hcl rfl h, fun h => Xx 6 hS hcl rfl h, c_7, c_8, fun h => Xx 9 hS hcl rfl h, fun h => Xx 10 hS hcl rfl h, c_11⟩
     refine X6 (fun S F w282 hS hbef hcl hI => ?_) ?_
     ·
      obtain ⟨B270, hi283, e284, e285, e286, e287, c_0, c_1, c_2, c_3, c_4, c_5, c_6, c_7, c_8, c_9, c_10, c_11⟩ := hI
      have hb288 := low0 hb170 hi283
      refine Xd (o' := 1) Zk e286 rfl rfl ?_
      exact Xa ⟨B270, hi283, e284, e285, e286, e287, c_0, fun _ => rfl, fun h => Xx 2 hS hcl rfl h, fun h => Xx 3 hS hcl rfl h, fun h => Xx 4 hS hcl rfl h, fun h => Xx 5 hS hcl rfl h, fun h => Xx 6 hS hcl rfl h, c_7, c_8, fun h => Xx 9 hS hcl rfl h, fun h => Xx 10 hS hcl rfl h, c_11⟩
     refine X6 (fun S F w289 hS hbef hcl hI => ?_) ?_
     ·
      obtain ⟨B270, hi290, e291, e292, e293, e294, c_0, c_1, c_2, c_3, c_4, c_5, c_6, c_7, c_8, c_9, c_10, c_11⟩ := hI
      have hb295 := low0 hb170 hi290
      obtain e296 := c_1 (Xo 1 hbef rfl)
      have k297 := (((hS121.blk.grown0 hg124).grown0 hg169).grown0 hi290)
      refine Xi (v := .int .i64 q107.run) X3 e296 (k297.cell rfl) rfl ?_
      exact Xa ⟨B270, hi290, e291, e292, e293, e294, c_0, c_1, fun _ => rfl, fun h => Xx 3 hS hcl rfl h, fun h => Xx 4 hS hcl rfl h, fun h => Xx 5 hS hcl rfl h, fun h => Xx 6 hS hcl rfl h, c_7, c_8, fun h => Xx 9 hS hcl rfl h, fun h => Xx 10 hS hcl rfl h, c_11⟩
     refine X6 (fun S F w298 hS hbef hcl hI => ?_) ?_
     ·
      obtain ⟨B270, hi299, e300, e301, e302, e303, c_0, c_1, c_2, c_3, c_4, c_5, c_6, c_7, c_8, c_9, c_10, c_11⟩ := hI
      have hb304 := low0 hb170 hi299
      obtain e305 := c_1 (Xo 1 hbef rfl)
      obtain e306 := c_2 (Xo 2 hbef rfl)
      refine Y3 (c := q107.run - 1) e306 rfl (by omega) (by omega) (by omega) rfl ?_
      exact Xa ⟨B270, hi299, e300, e301, e302, e303, c_0, c_1, c_2, fun _ => rfl, fun h => Xx 4 hS hcl rfl h, fun h => Xx 5 hS hcl rfl h, fun h => Xx 6 hS hcl rfl h, c_7, c_8, fun h => Xx 9 hS hcl rfl h, fun h => Xx 10 hS hcl rfl h, c_11⟩
     refine X6 (fun S F w307 hS hbef hcl hI => ?_) ?_
     ·
      obtain ⟨B270, hi308, e309, e310, e311, e312, c_0, c_1, c_2, c_3, c_4, c_5, c_6, c_7, c_8, c_9, c_10, c_11⟩ := hI
      have hb313 := low0 hb170 hi308
      obtain e314 := c_0 (Xo 0 hbef rfl)
      obtain e315 := c_1 (Xo 1 hbef rfl)
      obtain e316 := c_2 (Xo 2 hbef rfl)
      obtain e317 := c_3 (Xo 3 hbef rfl)
      refine Yd Zl e314 e317 ha250 ho251 (by omega) (by omega) rfl ?_
      exact Xa ⟨B270, hi308, e309, e310, e311, e312, c_0, c_1, c_2, c_3, fun _ => rfl, fun h => Xx 5 hS hcl rfl h, fun h => Xx 6 hS hcl rfl h, c_7, c_8, fun h => Xx 9 hS hcl rfl h, fun h => Xx 10 hS hcl rfl h, c_11⟩
     refine X6 (fun S F w318 hS hbef hcl hI => ?_) ?_
     ·
      obtain ⟨B270, hi319, e320, e321, e322, e323, c_0, c_1, c_2, c_3, c_4, c_5, c_6, c_7, c_8, c_9, c_10, c_11⟩ := hI
      have hb324 := low0 hb170 hi319
      obtain e325 := c_0 (Xo 0 hbef rfl)
      obtain e326 := c_1 (Xo 1 hbef rfl)
      obtain e327 := c_2 (Xo 2 hbef rfl)
      obtain e328 := c_3 (Xo 3 hbef rfl)
      obtain e329 := c_4 (Xo 4 hbef rfl)
      refine Xd (o' := o249 + 5) Zt e329 rfl rfl ?_
      exact Xa ⟨B270, hi319, e320, e321, e322, e323, c_0, c_1, c_2, c_3, c_4, fun _ => rfl, fun h => Xx 6 hS hcl rfl h, c_7, c_8, fun h => Xx 9 hS hcl rfl h, fun h => Xx 10 hS hcl rfl h, c_11⟩
     refine X6 (fun S F w330 hS hbef hcl hI => ?_) ?_
     ·
      obtain ⟨B270, hi331, e332, e333, e334, e335, c_0, c_1, c_2, c_3, c_4, c_5, c_6, c_7, c_8, c_9, c_10, c_11⟩ := hI
      have hb336 := low0 hb170 hi331
      obtain e337 := c_0 (Xo 0 hbef rfl)
      obtain e338 := c_1 (Xo 1 hbef rfl)
      obtain e339 := c_2 (Xo 2 hbef rfl)
      obtain e340 := c_3 (Xo 3 hbef rfl)
      obtain e341 := c_4 (Xo 4 hbef rfl)
      obtain e342 := c_5 (Xo 5 hbef rfl)
      refine Xi (v := .slice ((mAt ms106 ((q107.run - 1).toNat)).sa) ((mAt ms106 ((q107.run - 1).toNat)).t.slots.length) ((mAt ms106 ((q107.run - 1).toNat)).sc)) Qq e342 ((Yo hr252 hi331) 5 _ rfl) rfl ?_
      exact Xa ⟨B270, hi331, e332, e333, e334, e335, c_0, c_1, c_2, c_3, c_4, c_5, fun _ => rfl, c_7, c_8, fun h => Xx 9 hS hcl rfl h, fun h => Xx 10 hS hcl rfl h, c_11⟩
     refine X6 (fun S F w343 hS hbef hcl hI => ?_) ?_
     ·
      obtain ⟨B270, hi344, e345, e346, e347, e348, c_0, c_1, c_2, c_3, c_4, c_5, c_6, c_7, c_8, c_9, c_10, c_11⟩ := hI
      have hb349 := low0 hb170 hi344
      refine Xd (o' := 2) Qt e347 rfl rfl ?_
      exact Xa ⟨B270, hi344, e345, e346, e347, e348, c_0, c_1, c_2, c_3, c_4, c_5, c_6, fun _ => rfl, fun h => Xx 8 hS hcl rfl h, fun h => Xx 9 hS hcl rfl h, fun h => Xx 10 hS hcl rfl h, c_11⟩
     refine X6 (fun S F w350 hS hbef hcl hI => ?_) ?_
     ·
      obtain ⟨B270, hi351, e352, e353, e354, e355, c_0, c_1, c_2, c_3, c_4, c_5, c_6, c_7, c_8, c_9, c_10, c_11⟩ := hI
      have hb356 := low0 hb170 hi351
      obtain e357 := c_7 (Xo 7 hbef rfl)
      have k358 := (((hS121.blk.grown0 hg124).grown0 hg169).grown0 hi351)
      refine Xi (v := .int .i64 q107.a) X3 e357 (k358.cell rfl) rfl ?_
      exact Xa ⟨B270, hi351, e352, e353, e354, e355, c_0, c_1, c_2, c_3, c_4, c_5, c_6, c_7, fun _ => rfl, fun h => Xx 9 hS hcl rfl h, fun h => Xx 10 hS hcl rfl h, c_11⟩
     refine X6 (fun S F w359 hS hbef hcl hI => ?_) ?_
     ·
      obtain ⟨B270, hi360, e361, e362, e363, e364, c_0, c_1, c_2, c_3, c_4, c_5, c_6, c_7, c_8, c_9, c_10, c_11⟩ := hI
      have hb365 := low0 hb170 hi360
      obtain e366 := c_0 (Xo 0 hbef rfl)
      obtain e367 := c_1 (Xo 1 hbef rfl)
      obtain e368 := c_2 (Xo 2 hbef rfl)
      obtain e369 := c_3 (Xo 3 hbef rfl)
      obtain e370 := c_4 (Xo 4 hbef rfl)
      obtain e371 := c_5 (Xo 5 hbef rfl)
      obtain e372 := c_6 (Xo 6 hbef rfl)
      obtain e373 := c_7 (Xo 7 hbef rfl)
      obtain e374 := c_8 (Xo 8 hbef rfl)
      refine Yd Ka e372 e374 ha260 ho261 (by omega) (by omega) rfl ?_
      exact Xa ⟨B270, hi360, e361, e362, e363, e364, c_0, c_1, c_2, c_3, c_4, c_5, c_6, c_7, c_8, fun _ => rfl, fun h => Xx 10 hS hcl rfl h, c_11⟩
     refine X6 (fun S F w375 hS hbef hcl hI => ?_) ?_
     ·
      obtain ⟨B270, hi376, e377, e378, e379, e380, c_0, c_1, c_2, c_3, c_4, c_5, c_6, c_7, c_8, c_9, c_10, c_11⟩ := hI
      have hb381 := low0 hb170 hi376
      obtain e382 := c_0 (Xo 0 hbef rfl)
      obtain e383 := c_1 (Xo 1 hbef rfl)
      obtain e384 := c_2 (Xo 2 hbef rfl)
      obtain e385 := c_3 (Xo 3 hbef rfl)
      obtain e386 := c_4 (Xo 4 hbef rfl)
      obtain e387 := c_5 (Xo 5 hbef rfl)
      obtain e388 := c_6 (Xo 6 hbef rfl)
      obtain e389 := c_7 (Xo 7 hbef rfl)
      obtain e390 := c_8 (Xo 8 hbef rfl)
      obtain e391 := c_9 (Xo 9 hbef rfl)
      refine Xu (vs := [.int .i64 ((rAt (mAt ms106 ((q107.run - 1).toNat)).t.slots ((q107.a).toNat)).th), .int .i64 ((rAt (mAt ms106 ((q107.run - 1).toNat)).t.slots ((q107.a).toNat)).ve), .bool ((rAt (mAt ms106 ((q107.run - 1).toNat)).t.slots ((q107.a).toNat)).rd), .bool ((rAt (mAt ms106 ((q107.run - 1).toNat)).t.slots ((q107.a).toNat)).wr), .bool ((rAt (mAt ms106 ((q107.run - 1).toNat)).t.slots ((q107.a).toNat)).wk)]) Y8 e391 rfl (Za (Yo hr262 hi376) 0 5 rfl) rfl ?_
      exact Xa ⟨B270, hi376, e377, e378, e379, e380, c_0, c_1, c_2, c_3, c_4, c_5, c_6, c_7, c_8, c_9, fun _ => rfl, c_11⟩
     refine X6 (fun S F w392 hS hbef hcl hI => ?_) ?_
     ·
      obtain ⟨B270, hi393, e394, e395, e396, e397, c_0, c_1, c_2, c_3, c_4, c_5, c_6, c_7, c_8, c_9, c_10, c_11⟩ := hI
      have hb398 := low0 hb170 hi393
      refine Yj (cs := #[.int .i64 0, .int .i64 0, .bool false, .bool false, .bool false]) J3 rfl rfl ?_
      intro B399 w400 hN401
      have hlB399 := Yf hN401 hb398
      have hhiB399 : hi ≤ B399 := Nat.le_trans (Nat.le_trans (Nat.le_of_eq hhi) hi393.size) (Nat.le_of_eq hN401.eq.symm)
      have k402 := (((hS121.blk.grown0 hg124).grown0 hg169).grown0 hi393)
      have lt_B116_B399 := Xq hN401 (k402).lt
      have hb403 := low0 hb398 hN401.grw
      exact Xa ⟨B399, (low0 hi393 hN401.grw), e394, e395, e396, e397, c_0, c_1, c_2, c_3, c_4, c_5, c_6, c_7, c_8, c_9, c_10, fun _ => ⟨rfl, hlB399, hN401.blk, lt_B116_B399, (Nat.le_trans hi393.size (Nat.le_of_eq hN401.eq.symm))⟩⟩
     exact Q5
    ·
     intro S F w404 hall hI
     obtain ⟨B270, hi405, e406, e407, e408, e409, c_0, c_1, c_2, c_3, c_4, c_5, c_6, c_7, c_8, c_9, c_10, c_11⟩ := hI
     have hb410 := low0 hb170 hi405
     obtain e411 := c_0 (hall 0 (by decide))
     obtain e412 := c_1 (hall 1 (by decide))
     obtain e413 := c_2 (hall 2 (by decide))
     obtain e414 := c_3 (hall 3 (by decide))
     obtain e415 := c_4 (hall 4 (by decide))
     obtain e416 := c_5 (hall 5 (by decide))
     obtain e417 := c_6 (hall 6 (by decide))
     obtain e418 := c_7 (hall 7 (by decide))
     obtain e419 := c_8 (hall 8 (by decide))
     obtain e420 := c_9 (hall 9 (by decide))
     obtain e421 := c_10 (hall 10 (by decide))
     obtain ⟨e422, hlB270, kb_B270, lt_B116_B270, hk_B270⟩ := c_11 (hall 11 (by decide))
     refine Xz (vs := [.int .i64 ((rAt (mAt ms106 ((q107.run - 1).toNat)).t.slots ((q107.a).toNat)).th), .int .i64 ((rAt (mAt ms106 ((q107.run - 1).toNat)).t.slots ((q107.a).toNat)).ve), .bool ((rAt (mAt ms106 ((q107.run - 1).toNat)).t.slots ((q107.a).toNat)).rd), .bool ((rAt (mAt ms106 ((q107.run - 1).toNat)).t.slots ((q107.a).toNat)).wr), .bool ((rAt (mAt ms106 ((q107.run - 1).toNat)).t.slots ((q107.a).toNat)).wk)]) (cs' := #[.int .i64 ((rAt (mAt ms106 ((q107.run - 1).toNat)).t.slots ((q107.a).toNat)).th), .int .i64 ((rAt (mAt ms106 ((q107.run - 1).toNat)).t.slots ((q107.a).toNat)).ve), .bool ((rAt (mAt ms106 ((q107.run - 1).toNat)).t.slots ((q107.a).toNat)).rd), .bool ((rAt (mAt ms106 ((q107.run - 1).toNat)).t.slots ((q107.a).toNat)).wr), .bool ((rAt (mAt ms106 ((q107.run - 1).toNat)).t.slots ((q107.a).toNat)).wk)]) Y8 e422 e421 rfl (by simp [Value.oneCell']) kb_B270 (Nat.le_of_ble_eq_true rfl) rfl ?_
     intro w423 hS424
     have hb425 := low1 hb410 hS424.grw (by omega)
     refine Xa ?_
     refine Xv ?_
     refine Xb ?_
     refine Xc (v := .slice (some ⟨B104, 0, none⟩) ms106.length cap105) e407 rfl ?_
     refine Xd (o' := 1) Zk e408 rfl rfl ?_
     have k426 := ((((hS121.blk.grown0 hg124).grown0 hg169).grown0 hi405).grown hS424.grw (Xf (by omega)))
     refine Xi (v := .int .i64 q107.run) X3 rfl (k426.cell rfl) rfl ?_
     refine Xd (o' := 0) Yp e422 rfl rfl ?_
     refine Xi (v := .int .i64 ((rAt (mAt ms106 ((q107.run - 1).toNat)).t.slots ((q107.a).toNat)).th)) X3 rfl (hS424.blk.cell rfl) rfl ?_
     have hTG427 := (TabG.ge (TabG.low hTG184 hi405) hS424.grw hTH (by omega))
     refine Xn (vs := [.slice (some ⟨B104, 0, none⟩) ms106.length cap105, .int .i64 q107.run, .int .i64 ((rAt (mAt ms106 ((q107.run - 1).toNat)).t.slots ((q107.a).toNat)).th)]) P8 (Xg rfl (Xg rfl (Xg rfl Xm))) rfl (K3 q107.run ((rAt (mAt ms106 ((q107.run - 1).toNat)).t.slots ((q107.a).toNat)).th) (by omega) _ ms106 _ _ (TabG.at hTG427) hTl115 (by omega)) ?_
     rintro _ w428 ⟨rfl, hg429⟩
     have hb430 := low0 hb425 hg429
     refine Xh (v := .bool (chkSees (tabT ms106) q107.run ((rAt (mAt ms106 ((q107.run - 1).toNat)).t.slots ((q107.a).toNat)).th))) rfl rfl ?_
     refine Xa ?_
     refine Xb ?_
     refine Xc (v := .slice (some ⟨B104, 0, none⟩) ms106.length cap105) e407 rfl ?_
     have k431 := (hS424.blk.grown0 hg429)
     refine Xu (vs := [.int .i64 ((rAt (mAt ms106 ((q107.run - 1).toNat)).t.slots ((q107.a).toNat)).th), .int .i64 ((rAt (mAt ms106 ((q107.run - 1).toNat)).t.slots ((q107.a).toNat)).ve), .bool ((rAt (mAt ms106 ((q107.run - 1).toNat)).t.slots ((q107.a).toNat)).rd), .bool ((rAt (mAt ms106 ((q107.run - 1).toNat)).t.slots ((q107.a).toNat)).wr), .bool ((rAt (mAt ms106 ((q107.run - 1).toNat)).t.slots ((q107.a).toNat)).wk)]) Y8 e422 rfl (k431.rangeL 0 5 rfl) rfl ?_
     have hTG432 := (TabG.low hTG427 hg429)
     refine Xn (vs := [.slice (some ⟨B104, 0, none⟩) ms106.length cap105, .agg #[.int .i64 ((rAt (mAt ms106 ((q107.run - 1).toNat)).t.slots ((q107.a).toNat)).th), .int .i64 ((rAt (mAt ms106 ((q107.run - 1).toNat)).t.slots ((q107.a).toNat)).ve), .bool ((rAt (mAt ms106 ((q107.run - 1).toNat)).t.slots ((q107.a).toNat)).rd), .bool ((rAt (mAt ms106 ((q107.run - 1).toNat)).t.slots ((q107.a).toNat)).wr), .bool ((rAt (mAt ms106 ((q107.run - 1).toNat)).t.slots ((q107.a).toNat)).wk)]]) Mt (Xg rfl (Xg rfl Xm)) rfl (Gl (rAt (mAt ms106 ((q107.run - 1).toNat)).t.slots ((q107.a).toNat)) _ ms106 _ _ (TabG.at hTG432) hTl115 (by omega)) ?_
     rintro _ w433 ⟨rfl, hg434⟩
     have hb435 := low0 hb430 hg434
     refine Xh (v := .bool (tabLive (tabT ms106) (rAt (mAt ms106 ((q107.run - 1).toNat)).t.slots ((q107.a).toNat)))) rfl rfl ?_
     refine Xa ?_
     refine X2 (fun f' w' => (f' 2 = .bool (((decide (chkAll (tabT ms106) q107 = 0)) && (tabLive (tabT ms106) (rAt (mAt ms106 ((q107.run - 1).toNat)).t.slots ((q107.a).toNat)) || (!chkSees (tabT ms106) q107.run ((rAt (mAt ms106 ((q107.run - 1).toNat)).t.slots ((q107.a).toNat)).th)))) || (((decide (chkAll (tabT ms106) q107 = (-3))) && chkSees (tabT ms106) q107.run ((rAt (mAt ms106 ((q107.run - 1).toNat)).t.slots ((q107.a).toNat)).th)) && (!tabLive (tabT ms106) (rAt (mAt ms106 ((q107.run - 1).toNat)).t.slots ((q107.a).toNat)))))) ∧ w433 = w') ?_ ?_
     ·
      refine Xc (v := .int .i64 (chkAll (tabT ms106) q107)) e409 rfl ?_
      refine X4 (q := decide (chkAll (tabT ms106) q107 = 0)) rfl rfl rfl rfl ?_
      refine Xc (v := .bool (decide (chkAll (tabT ms106) q107 = 0))) rfl rfl ?_
      rcases Yb (decide (chkAll (tabT ms106) q107 = 0)) with h436 | h436
      ·
       have hp437 : callPoss (tabT ms106) q107 = true := Zo (by have := of_decide_eq_true h436; omega)
       have h438 := of_decide_eq_true h436
       refine Xe rfl rfl rfl h436 ?_
       refine Xc (v := .bool (tabLive (tabT ms106) (rAt (mAt ms106 ((q107.run - 1).toNat)).t.slots ((q107.a).toNat)))) rfl rfl ?_
       refine Xe rfl rfl rfl h436 ?_
       refine Xc (v := .bool (tabLive (tabT ms106) (rAt (mAt ms106 ((q107.run - 1).toNat)).t.slots ((q107.a).toNat)))) rfl rfl ?_
       rcases Yb (tabLive (tabT ms106) (rAt (mAt ms106 ((q107.run - 1).toNat)).t.slots ((q107.a).toNat))) with h439 | h439
       ·
        refine Xk rfl rfl rfl h439 rfl ?_
        refine Xk rfl rfl rfl h439 rfl ?_
        refine Xe rfl rfl rfl h436 ?_
        refine Xr (v := .bool true) rfl h439 rfl rfl ?_
        refine Xr (v := .bool true) rfl h436 rfl rfl ?_
        refine Xc (v := .bool true) rfl rfl ?_
        iterate 3 refine Xk rfl rfl rfl rfl rfl ?_
        refine Yg rfl rfl rfl rfl ?_
        refine Xk rfl rfl rfl rfl rfl ?_
        refine Xk rfl rfl rfl rfl rfl ?_
        refine Yg rfl rfl rfl rfl ?_
        refine Yg rfl rfl rfl rfl ?_
        refine Xk rfl rfl rfl rfl rfl ?_
        refine Xr (v := .bool true) rfl rfl rfl rfl ?_
        refine Xh (v := .bool true) rfl rfl ?_
        exact Xa ⟨(congrArg Value.bool (by first | (simp only [h101, h171, h177, h178, h179, h181, h436, h439, hT185, hc186, hkd187, hp183, b0, b1, b2, b3, b4, b5, b6, b7, b8, b9]; done) | simp [h101, h171, h177, h178, h179, h181, h436, h439, hT185, hc186, hkd187, hp183])), rfl⟩
       ·
        refine Xe rfl rfl rfl h439 ?_
        refine Xc (v := .bool (chkSees (tabT ms106) q107.run ((rAt (mAt ms106 ((q107.run - 1).toNat)).t.slots ((q107.a).toNat)).th))) rfl rfl ?_
        refine Xe rfl rfl rfl h439 ?_
        refine Yk (b' := !chkSees (tabT ms106) q107.run ((rAt (mAt ms106 ((q107.run - 1).toNat)).t.slots ((q107.a).toNat)).th)) rfl rfl rfl ?_
        refine Xe rfl rfl rfl h436 ?_
        refine Xl (v := .bool (!chkSees (tabT ms106) q107.run ((rAt (mAt ms106 ((q107.run - 1).toNat)).t.slots ((q107.a).toNat)).th))) rfl h439 rfl rfl ?_
        refine Xr (v := .bool (!chkSees (tabT ms106) q107.run ((rAt (mAt ms106 ((q107.run - 1).toNat)).t.slots ((q107.a).toNat)).th))) rfl h436 rfl rfl ?_
        refine Xc (v := .bool (!chkSees (tabT ms106) q107.run ((rAt (mAt ms106 ((q107.run - 1).toNat)).t.slots ((q107.a).toNat)).th))) rfl rfl ?_
        rcases Yb (!chkSees (tabT ms106) q107.run ((rAt (mAt ms106 ((q107.run - 1).toNat)).t.slots ((q107.a).toNat)).th)) with h440 | h440
        ·
         have h441 := Zn h440
         iterate 3 refine Xk rfl rfl rfl h440 rfl ?_
         refine Yg rfl rfl rfl rfl ?_
         refine Xk rfl rfl rfl h440 rfl ?_
         refine Xk rfl rfl rfl h440 rfl ?_
         refine Yg rfl rfl rfl rfl ?_
         refine Yg rfl rfl rfl rfl ?_
         refine Xk rfl rfl rfl h440 rfl ?_
         refine Xr (v := .bool true) rfl h440 rfl rfl ?_
         refine Xh (v := .bool true) rfl rfl ?_
         exact Xa ⟨(congrArg Value.bool (by first | (simp only [h101, h171, h177, h178, h179, h181, h436, h439, h440, h441, hT185, hc186, hkd187, hp183, b0, b1, b2, b3, b4, b5, b6, b7, b8, b9]; done) | simp [h101, h171, h177, h178, h179, h181, h436, h439, h440, h441, hT185, hc186, hkd187, hp183])), rfl⟩
        ·
         have h442 := Zh h440
         refine Xe rfl rfl rfl h440 ?_
         refine Xc (v := .int .i64 (chkAll (tabT ms106) q107)) e409 rfl ?_
         refine Xe rfl rfl rfl h440 ?_
         refine X4 (q := decide (chkAll (tabT ms106) q107 = (-3))) rfl rfl rfl rfl ?_
         refine Xe rfl rfl rfl h440 ?_
         refine Xc (v := .bool (decide (chkAll (tabT ms106) q107 = (-3)))) rfl rfl ?_
         rcases Yb (decide (chkAll (tabT ms106) q107 = (-3))) with h443 | h443
         ·
          have hp444 : callPoss (tabT ms106) q107 = true := Zo (by have := of_decide_eq_true h443; omega)
          have h445 := of_decide_eq_true h443
          refine Xe rfl rfl rfl h443 ?_
          refine Xc (v := .bool (chkSees (tabT ms106) q107.run ((rAt (mAt ms106 ((q107.run - 1).toNat)).t.slots ((q107.a).toNat)).th))) rfl rfl ?_
          refine Xe rfl rfl rfl h440 ?_
          refine Xr (v := .bool (chkSees (tabT ms106) q107.run ((rAt (mAt ms106 ((q107.run - 1).toNat)).t.slots ((q107.a).toNat)).th))) rfl h443 rfl rfl ?_
          refine Xe rfl rfl rfl h440 ?_
          refine Xc (v := .bool (chkSees (tabT ms106) q107.run ((rAt (mAt ms106 ((q107.run - 1).toNat)).t.slots ((q107.a).toNat)).th))) rfl rfl ?_
          refine Xe rfl rfl rfl h442 ?_
          refine Xc (v := .bool (tabLive (tabT ms106) (rAt (mAt ms106 ((q107.run - 1).toNat)).t.slots ((q107.a).toNat)))) rfl rfl ?_
          refine Xe rfl rfl rfl h442 ?_
          refine Yk (b' := !tabLive (tabT ms106) (rAt (mAt ms106 ((q107.run - 1).toNat)).t.slots ((q107.a).toNat))) rfl rfl rfl ?_
          refine Xe rfl rfl rfl h440 ?_
          refine Xr (v := .bool (!tabLive (tabT ms106) (rAt (mAt ms106 ((q107.run - 1).toNat)).t.slots ((q107.a).toNat)))) rfl h442 rfl rfl ?_
          refine Xl (v := .bool (!tabLive (tabT ms106) (rAt (mAt ms106 ((q107.run - 1).toNat)).t.slots ((q107.a).toNat)))) rfl h440 rfl rfl ?_
          refine Xh (v := .bool (!tabLive (tabT ms106) (rAt (mAt ms106 ((q107.run - 1).toNat)).t.slots ((q107.a).toNat)))) rfl rfl ?_
          exact Xa ⟨(congrArg Value.bool (by first | (simp only [h101, h171, h177, h178, h179, h181, h436, h439, h440, h442, h443, hT185, hc186, hkd187, hp183, b0, b1, b2, b3, b4, b5, b6, b7, b8, b9]; done) | simp [h101, h171, h177, h178, h179, h181, h436, h439, h440, h442, h443, hT185, hc186, hkd187, hp183])), rfl⟩
         ·
          have h446 := of_decide_eq_false h443
          refine Xk rfl rfl rfl h443 rfl ?_
          refine Xe rfl rfl rfl h440 ?_
          refine Xl (v := .bool false) rfl h443 rfl rfl ?_
          refine Xe rfl rfl rfl h440 ?_
          refine Xc (v := .bool false) rfl rfl ?_
          refine Xk rfl rfl rfl rfl rfl ?_
          refine Xk rfl rfl rfl rfl rfl ?_
          refine Xe rfl rfl rfl h440 ?_
          refine Xl (v := .bool false) rfl rfl rfl rfl ?_
          refine Xl (v := .bool false) rfl h440 rfl rfl ?_
          refine Xh (v := .bool false) rfl rfl ?_
          exact Xa ⟨(congrArg Value.bool (by first | (simp only [h101, h171, h177, h178, h179, h181, h436, h439, h440, h442, h443, hT185, hc186, hkd187, hp183, b0, b1, b2, b3, b4, b5, b6, b7, b8, b9]; done) | simp [h101, h171, h177, h178, h179, h181, h436, h439, h440, h442, h443, hT185, hc186, hkd187, hp183])), rfl⟩
      ·
       have h447 := of_decide_eq_false h436
       refine Xk rfl rfl rfl h436 rfl ?_
       refine Xk rfl rfl rfl h436 rfl ?_
       refine Yg rfl rfl rfl rfl ?_
       refine Yg rfl rfl rfl rfl ?_
       refine Xk rfl rfl rfl h436 rfl ?_
       refine Xl (v := .bool false) rfl h436 rfl rfl ?_
       refine Xc (v := .bool false) rfl rfl ?_
       refine Xe rfl rfl rfl rfl ?_
       refine Xc (v := .int .i64 (chkAll (tabT ms106) q107)) e409 rfl ?_
       refine Xe rfl rfl rfl rfl ?_
       refine X4 (q := decide (chkAll (tabT ms106) q107 = (-3))) rfl rfl rfl rfl ?_
       refine Xe rfl rfl rfl rfl ?_
       refine Xc (v := .bool (decide (chkAll (tabT ms106) q107 = (-3)))) rfl rfl ?_
       rcases Yb (decide (chkAll (tabT ms106) q107 = (-3))) with h448 | h448
       ·
        have hp449 : callPoss (tabT ms106) q107 = true := Zo (by have := of_decide_eq_true h448; omega)
        have h450 := of_decide_eq_true h448
        refine Xe rfl rfl rfl h448 ?_
        refine Xc (v := .bool (chkSees (tabT ms106) q107.run ((rAt (mAt ms106 ((q107.run - 1).toNat)).t.slots ((q107.a).toNat)).th))) rfl rfl ?_
        refine Xe rfl rfl rfl rfl ?_
        refine Xr (v := .bool (chkSees (tabT ms106) q107.run ((rAt (mAt ms106 ((q107.run - 1).toNat)).t.slots ((q107.a).toNat)).th))) rfl h448 rfl rfl ?_
        refine Xe rfl rfl rfl rfl ?_
        refine Xc (v := .bool (chkSees (tabT ms106) q107.run ((rAt (mAt ms106 ((q107.run - 1).toNat)).t.slots ((q107.a).toNat)).th))) rfl rfl ?_
        rcases Yb (chkSees (tabT ms106) q107.run ((rAt (mAt ms106 ((q107.run - 1).toNat)).t.slots ((q107.a).toNat)).th)) with h451 | h451
        ·
         refine Xe rfl rfl rfl h451 ?_
         refine Xc (v := .bool (tabLive (tabT ms106) (rAt (mAt ms106 ((q107.run - 1).toNat)).t.slots ((q107.a).toNat)))) rfl rfl ?_
         refine Xe rfl rfl rfl h451 ?_
         refine Yk (b' := !tabLive (tabT ms106) (rAt (mAt ms106 ((q107.run - 1).toNat)).t.slots ((q107.a).toNat))) rfl rfl rfl ?_
         refine Xe rfl rfl rfl rfl ?_
         refine Xr (v := .bool (!tabLive (tabT ms106) (rAt (mAt ms106 ((q107.run - 1).toNat)).t.slots ((q107.a).toNat)))) rfl h451 rfl rfl ?_
         refine Xl (v := .bool (!tabLive (tabT ms106) (rAt (mAt ms106 ((q107.run - 1).toNat)).t.slots ((q107.a).toNat)))) rfl rfl rfl rfl ?_
         refine Xh (v := .bool (!tabLive (tabT ms106) (rAt (mAt ms106 ((q107.run - 1).toNat)).t.slots ((q107.a).toNat)))) rfl rfl ?_
         exact Xa ⟨(congrArg Value.bool (by first | (simp only [h101, h171, h177, h178, h179, h181, h436, h448, h451, hT185, hc186, hkd187, hp183, b0, b1, b2, b3, b4, b5, b6, b7, b8, b9]; done) | simp [h101, h171, h177, h178, h179, h181, h436, h448, h451, hT185, hc186, hkd187, hp183])), rfl⟩
        ·
         refine Xk rfl rfl rfl h451 rfl ?_
         refine Xk rfl rfl rfl h451 rfl ?_
         refine Xe rfl rfl rfl rfl ?_
         refine Xl (v := .bool false) rfl h451 rfl rfl ?_
         refine Xl (v := .bool false) rfl rfl rfl rfl ?_
         refine Xh (v := .bool false) rfl rfl ?_
         exact Xa ⟨(congrArg Value.bool (by first | (simp only [h101, h171, h177, h178, h179, h181, h436, h448, h451, hT185, hc186, hkd187, hp183, b0, b1, b2, b3, b4, b5, b6, b7, b8, b9]; done) | simp [h101, h171, h177, h178, h179, h181, h436, h448, h451, hT185, hc186, hkd187, hp183])), rfl⟩
       ·
        have h452 := of_decide_eq_false h448
        refine Xk rfl rfl rfl h448 rfl ?_
        refine Xe rfl rfl rfl rfl ?_
        refine Xl (v := .bool false) rfl h448 rfl rfl ?_
        refine Xe rfl rfl rfl rfl ?_
        refine Xc (v := .bool false) rfl rfl ?_
        refine Xk rfl rfl rfl rfl rfl ?_
        refine Xk rfl rfl rfl rfl rfl ?_
        refine Xe rfl rfl rfl rfl ?_
        refine Xl (v := .bool false) rfl rfl rfl rfl ?_
        refine Xl (v := .bool false) rfl rfl rfl rfl ?_
        refine Xh (v := .bool false) rfl rfl ?_
        exact Xa ⟨(congrArg Value.bool (by first | (simp only [h101, h171, h177, h178, h179, h181, h436, h448, hT185, hc186, hkd187, hp183, b0, b1, b2, b3, b4, b5, b6, b7, b8, b9]; done) | simp [h101, h171, h177, h178, h179, h181, h436, h448, hT185, hc186, hkd187, hp183])), rfl⟩
     ·
      rintro f453 w454 ⟨e455, rfl⟩
      refine Xs ?_
      refine ⟨.bool (((decide (chkAll (tabT ms106) q107 = 0)) && (tabLive (tabT ms106) (rAt (mAt ms106 ((q107.run - 1).toNat)).t.slots ((q107.a).toNat)) || (!chkSees (tabT ms106) q107.run ((rAt (mAt ms106 ((q107.run - 1).toNat)).t.slots ((q107.a).toNat)).th)))) || (((decide (chkAll (tabT ms106) q107 = (-3))) && chkSees (tabT ms106) q107.run ((rAt (mAt ms106 ((q107.run - 1).toNat)).t.slots ((q107.a).toNat)).th)) && (!tabLive (tabT ms106) (rAt (mAt ms106 ((q107.run - 1).toNat)).t.slots ((q107.a).toNat))))), Yq rfl e455, ?_, hb435⟩
      have hL := P4 (ts := tabT ms106) (q := q107) (by omega) (by omega)
      rw [← Q1] at hL
      exact congrArg Value.bool (Tr hL)
theorem law_FnReadUp (bs : List Int) (a : Option Addr) (c : Nat) (w : World) (hs0 : SlAt w a 1 (bs.map bcell)) (hb : ∀ b ∈ bs, 0 ≤ b ∧ b ≤ 255) (hn : bs.length ≤ 9223372036854775807) (hc : bs.length ≤ c) (hE : ErrT w) : CallsR Tryd.prog 6 #[.slice a bs.length c] w (fun v w' => v = .bool true ∧ w.grownBy w' none) := by
 refine X0 (n := 129) Tryd.func6 rfl Tryd.ntmps6 rfl ?_
 have hb0 := World.grownBy.refl w none
 have hs := SlAt.lt Vc (by omega) hs0
 refine Xb ?_
 refine Xh (v := .bool false) rfl rfl ?_
 refine Xa ?_
 refine Xt ?_
 refine Xb ?_
 refine Xc (v := .slice a bs.length c) rfl rfl ?_
 refine Ym (by kernel_rfl) rfl rfl ?_
 refine Zq (q := decide (1048576 < (bs.length : Int))) rfl rfl rfl rfl ?_
 refine Xa ?_
 refine Xw rfl (fun h101 => ?_) (fun h101 => ?_)
 ·
  have h102 := of_decide_eq_true h101
  refine Xb ?_
  refine Xh (v := .bool true) rfl rfl ?_
  refine Xa ?_
  refine Xs ?_
  refine Yi ?_
  refine ⟨.bool true, Yq rfl rfl, ?_, hb0⟩
  rfl
 ·
  have h103 := of_decide_eq_false h101
  refine Xy ?_
  refine Xv ?_
  refine Xb ?_
  refine Xc (v := .slice a bs.length c) rfl rfl ?_
  refine Xn (vs := [.slice a bs.length c]) P1 (Xg rfl Xm) rfl (Jt bs a c _ (SlAt.low hs0 hb0) hb (by omega) (by omega)) ?_
  rintro _ w113 ⟨B104, cap105, ms106, q107, rfl, hTG108, hTS109, hTn110, hq111, hg112⟩
  have hb114 := low0 hb0 hg112
  have hTl115 := hTS109.len
  refine Xc (v := .tuple #[.slice (some ⟨B104, 0, none⟩) ms106.length cap105, .agg #[.int .i64 q107.kind, .int .i64 q107.run, .int .i64 q107.a, .int .i64 q107.b, .int .i64 q107.n]]) rfl rfl ?_
  refine Yz (v := .slice (some ⟨B104, 0, none⟩) ms106.length cap105) rfl rfl rfl ?_
  refine Yz (v := .agg #[.int .i64 q107.kind, .int .i64 q107.run, .int .i64 q107.a, .int .i64 q107.b, .int .i64 q107.n]) rfl rfl rfl ?_
  refine Yj (cs := #[.int .i64 0, .int .i64 0, .int .i64 0, .int .i64 0, .int .i64 0]) Vw rfl rfl ?_
  intro B116 w117 hN118
  have hlB116 := Yf hN118 hb114
  have hb119 := low0 hb114 hN118.grw
  refine Xh (v := .slice (some ⟨B104, 0, none⟩) ms106.length cap105) rfl rfl ?_
  refine Xz (vs := [.int .i64 q107.kind, .int .i64 q107.run, .int .i64 q107.a, .int .i64 q107.b, .int .i64 q107.n]) (cs' := #[.int .i64 q107.kind, .int .i64 q107.run, .int .i64 q107.a, .int .i64 q107.b, .int .i64 q107.n]) Yv rfl rfl rfl (by simp [Value.oneCell']) hN118.blk (Nat.le_of_ble_eq_true rfl) rfl ?_
  intro w120 hS121
  have hb122 := low1 hb119 hS121.grw (by omega)
  refine Xa ?_
  refine Xb ?_
  refine Xc (v := .slice (some ⟨B104, 0, none⟩) ms106.length cap105) rfl rfl ?_
  refine Xu (vs := [.int .i64 q107.kind, .int .i64 q107.run, .int .i64 q107.a, .int .i64 q107.b, .int .i64 q107.n]) Yv rfl rfl (hS121.blk.rangeL 0 5 rfl) rfl ?_
  refine Xn (vs := [.slice (some ⟨B104, 0, none⟩) ms106.length cap105, .agg #[.int .i64 q107.kind, .int .i64 q107.run, .int .i64 q107.a, .int .i64 q107.b, .int .i64 q107.n]]) Wk (Xg rfl (Xg rfl Xm)) rfl (Q8 q107 _ ms106 _ _ (TabG.at (TabG.low hTG108 (low1 hN118.grw hS121.grw (Nat.le_trans ((World.grownBy.refl _ none)).size (Nat.le_of_eq hN118.eq.symm))))) hTl115 (by omega) (ErrT.grown0 hE hb122)) ?_
  rintro _ w123 ⟨rfl, hg124⟩
  have hb125 := low0 hb122 hg124
  have hck126 := Z4 (ts := tabT ms106) (q := q107)
  refine Xh (v := .int .i64 (chkAll (tabT ms106) q107)) rfl rfl ?_
  refine Xa ?_
  refine Xt ?_
  refine X2 (fun f' w' => (f' 2 = .bool false ∧ f' 3 = .slice (some ⟨B104, 0, none⟩) ms106.length cap105 ∧ f' 4 = .pointer (some ⟨B116, 0, none⟩) ∧ f' 5 = .int .i64 (chkAll (tabT ms106) q107) ∧ f' 52 = .bool ((((false || (!tableOk (tabT ms106))) || (!callOk q107)) || (decide ((ms106.length : Int) < q107.run))) || (!(decide ((mAt ms106 ((q107.run - 1).toNat)).t.kind = 3))))) ∧ w123.grownBy w' none) ?_ ?_
  ·
   refine Xc (v := .int .i64 (chkAll (tabT ms106) q107)) rfl rfl ?_
   refine Xc (v := .slice (some ⟨B104, 0, none⟩) ms106.length cap105) rfl rfl ?_
   have k157 := (hS121.blk.grown0 hg124)
   refine Xu (vs := [.int .i64 q107.kind, .int .i64 q107.run, .int .i64 q107.a, .int .i64 q107.b, .int .i64 q107.n]) Yv rfl rfl (k157.rangeL 0 5 rfl) rfl ?_
   refine Xn (vs := [.slice (some ⟨B104, 0, none⟩) ms106.length cap105, .agg #[.int .i64 q107.kind, .int .i64 q107.run, .int .i64 q107.a, .int .i64 q107.b, .int .i64 q107.n]]) U2 (Xg rfl (Xg rfl Xm)) rfl (Qp q107 _ ms106 _ _ (TabG.at (TabG.low hTG108 (low0 (low1 hN118.grw hS121.grw (Nat.le_trans ((World.grownBy.refl _ none)).size (Nat.le_of_eq hN118.eq.symm))) hg124))) hTl115 (by omega)) ?_
   rintro _ w158 ⟨rfl, hg159⟩
   have hb160 := low0 hb125 hg159
   have hck161 := Z4 (ts := tabT ms106) (q := q107)
   refine Y7 (q := false) rfl rfl (by simp) rfl ?_
   refine Xc (v := .bool false) rfl rfl ?_
   refine Xe rfl rfl rfl rfl ?_
   refine Xc (v := .slice (some ⟨B104, 0, none⟩) ms106.length cap105) rfl rfl ?_
   refine Xe rfl rfl rfl rfl ?_
   refine Xn (vs := [.slice (some ⟨B104, 0, none⟩) ms106.length cap105]) Pn (Xg rfl Xm) rfl (Vg  _ ms106 _ _ (TabG.at (TabG.low hTG108 (low0 (low0 (low1 hN118.grw hS121.grw (Nat.le_trans ((World.grownBy.refl _ none)).size (Nat.le_of_eq hN118.eq.symm))) hg124) hg159))) hTl115 (by omega)) ?_
   rintro _ w162 ⟨rfl, hg163⟩
   have hb164 := low0 hb160 hg163
   refine Xe rfl rfl rfl rfl ?_
   refine Yk (b' := !tableOk (tabT ms106)) rfl rfl rfl ?_
   refine Xl (v := .bool (!tableOk (tabT ms106))) rfl rfl rfl rfl ?_
   refine Xc (v := .bool (!tableOk (tabT ms106))) rfl rfl ?_
   rcases Yb (!tableOk (tabT ms106)) with h165 | h165
   ·
    have h166 := Zn h165
    iterate 3 refine Xk rfl rfl rfl h165 rfl ?_
    refine Xr (v := .bool true) rfl h165 rfl rfl ?_
    refine Xc (v := .bool true) rfl rfl ?_
    iterate 5 refine Xk rfl rfl rfl rfl rfl ?_
    refine Xr (v := .bool true) rfl rfl rfl rfl ?_
    refine Xc (v := .bool true) rfl rfl ?_
    iterate 8 refine Xk rfl rfl rfl rfl rfl ?_
    refine Xr (v := .bool true) rfl rfl rfl rfl ?_
    exact Xa ⟨⟨rfl, rfl, rfl, rfl, (congrArg Value.bool (by first | (simp only [h101, h165, h166, b0, b1, b2, b3, b4, b5, b6, b7, b8, b9]; done) | simp [h101, h165, h166]))⟩, (grown_trans hg159 hg163)⟩
   ·
    have h167 := Zh h165
    refine Xe rfl rfl rfl h165 ?_
    have k168 := ((k157.grown0 hg159).grown0 hg163)
    refine Xu (vs := [.int .i64 q107.kind, .int .i64 q107.run, .int .i64 q107.a, .int .i64 q107.b, .int .i64 q107.n]) Yv rfl rfl (k168.rangeL 0 5 rfl) rfl ?_
    refine Xe rfl rfl rfl h165 ?_
    refine Xn (vs := [.agg #[.int .i64 q107.kind, .int .i64 q107.run, .int .i64 q107.a, .int .i64 q107.b, .int .i64 q107.n]]) S2 (Xg rfl Xm) rfl (Wj q107 _) ?_
    rintro _ w169 ⟨rfl, hg170⟩
    have hb171 := low0 hb164 hg170
    refine Xe rfl rfl rfl h165 ?_
    refine Yk (b' := !callOk q107) rfl rfl rfl ?_
    refine Xl (v := .bool (!callOk q107)) rfl h165 rfl rfl ?_
    refine Xc (v := .bool (!callOk q107)) rfl rfl ?_
    rcases Yb (!callOk q107) with h172 | h172
    ·
     have h173 := Zn h172
     iterate 5 refine Xk rfl rfl rfl h172 rfl ?_
     refine Xr (v := .bool true) rfl h172 rfl rfl ?_
     refine Xc (v := .bool true) rfl rfl ?_
     iterate 8 refine Xk rfl rfl rfl rfl rfl ?_
     refine Xr (v := .bool true) rfl rfl rfl rfl ?_
     exact Xa ⟨⟨rfl, rfl, rfl, rfl, (congrArg Value.bool (by first | (simp only [h101, h165, h167, h172, h173, b0, b1, b2, b3, b4, b5, b6, b7, b8, b9]; done) | simp [h101, h165, h167, h172, h173]))⟩, (grown_trans (grown_trans hg159 hg163) hg170)⟩
    ·
     have h174 := Zh h172
     have hco175 := Z2 h174
     refine Xe rfl rfl rfl h172 ?_
     refine Xd (o' := 1) Zk rfl rfl rfl ?_
     refine Xe rfl rfl rfl h172 ?_
     have k176 := (k168.grown0 hg170)
     refine Xi (v := .int .i64 q107.run) X3 rfl (k176.cell rfl) rfl ?_
     refine Xe rfl rfl rfl h172 ?_
     refine Xc (v := .slice (some ⟨B104, 0, none⟩) ms106.length cap105) rfl rfl ?_
     refine Xe rfl rfl rfl h172 ?_
     refine Ym (by kernel_rfl) rfl rfl ?_
     refine Xe rfl rfl rfl h172 ?_
     refine Zq (q := decide ((ms106.length : Int) < q107.run)) rfl rfl rfl rfl ?_
     refine Xl (v := .bool (decide ((ms106.length : Int) < q107.run))) rfl h172 rfl rfl ?_
     refine Xc (v := .bool (decide ((ms106.length : Int) < q107.run))) rfl rfl ?_
     rcases Yb (decide ((ms106.length : Int) < q107.run)) with h177 | h177
     ·
      have h178 := of_decide_eq_true h177
      iterate 8 refine Xk rfl rfl rfl h177 rfl ?_
      refine Xr (v := .bool true) rfl h177 rfl rfl ?_
      exact Xa ⟨⟨rfl, rfl, rfl, rfl, (congrArg Value.bool (by first | (simp only [h101, h165, h167, h172, h174, h177, b0, b1, b2, b3, b4, b5, b6, b7, b8, b9]; done) | simp [h101, h165, h167, h172, h174, h177]))⟩, (grown_trans (grown_trans hg159 hg163) hg170)⟩
     ·
      have h179 := of_decide_eq_false h177
      refine Xe rfl rfl rfl h177 ?_
      refine Xc (v := .slice (some ⟨B104, 0, none⟩) ms106.length cap105) rfl rfl ?_
      refine Xe rfl rfl rfl h177 ?_
      refine Xd (o' := 1) Zk rfl rfl rfl ?_
      refine Xe rfl rfl rfl h177 ?_
      refine Xi (v := .int .i64 q107.run) X3 rfl (k176.cell rfl) rfl ?_
      refine Xe rfl rfl rfl h177 ?_
      refine Y3 (c := q107.run - 1) rfl rfl (by omega) (by omega) (by omega) rfl ?_
      refine Xe rfl rfl rfl h177 ?_
      obtain ⟨b182, q183, o184, ha185, ho186, hr187⟩ := SlAt.at (TabG.at (TabG.low hTG108 (low0 (low0 (low0 (low0 (low1 hN118.grw hS121.grw (Nat.le_trans ((World.grownBy.refl _ none)).size (Nat.le_of_eq hN118.eq.symm))) hg124) hg159) hg163) hg170))).1 (Yn (Ya (show (q107.run - 1).toNat < ms106.length by omega)))
      have hle188 := TabLen.at hTl115 (Ya (show (q107.run - 1).toNat < ms106.length by omega))
      refine Yd Zl rfl rfl ha185 ho186 (by omega) (by omega) rfl ?_
      refine Xe rfl rfl rfl h177 ?_
      refine Xd (o' := o184) Yt rfl rfl rfl ?_
      refine Xe rfl rfl rfl h177 ?_
      refine Xi (v := .int .i64 ((mAt ms106 ((q107.run - 1).toNat)).t.kind)) X3 rfl (hr187 0 _ rfl) rfl ?_
      refine Xe rfl rfl rfl h177 ?_
      refine Y7 (q := !(decide ((mAt ms106 ((q107.run - 1).toNat)).t.kind = 3))) rfl rfl rfl rfl ?_
      refine Xl (v := .bool (!(decide ((mAt ms106 ((q107.run - 1).toNat)).t.kind = 3)))) rfl h177 rfl rfl ?_
      exact Xa ⟨⟨rfl, rfl, rfl, rfl, (congrArg Value.bool (by first | (simp only [h101, h165, h167, h172, h174, h177, b0, b1, b2, b3, b4, b5, b6, b7, b8, b9]; done) | simp [h101, h165, h167, h172, h174, h177]))⟩, (grown_trans (grown_trans hg159 hg163) hg170)⟩
  ·
   rintro f189 w190 ⟨⟨e191, e192, e193, e194, e195⟩, hg196⟩
   have hb197 := low0 hb125 hg196
   refine Xw e195 (fun h198 => ?_) (fun h198 => ?_)
   ·
    refine Xb ?_
    refine Xc (v := .int .i64 (chkAll (tabT ms106) q107)) e194 rfl ?_
    refine Xc (v := .slice (some ⟨B104, 0, none⟩) ms106.length cap105) e192 rfl ?_
    have k199 := ((hS121.blk.grown0 hg124).grown0 hg196)
    refine Xu (vs := [.int .i64 q107.kind, .int .i64 q107.run, .int .i64 q107.a, .int .i64 q107.b, .int .i64 q107.n]) Yv e193 rfl (k199.rangeL 0 5 rfl) rfl ?_
    refine Xn (vs := [.slice (some ⟨B104, 0, none⟩) ms106.length cap105, .agg #[.int .i64 q107.kind, .int .i64 q107.run, .int .i64 q107.a, .int .i64 q107.b, .int .i64 q107.n]]) U2 (Xg rfl (Xg rfl Xm)) rfl (Qp q107 _ ms106 _ _ (TabG.at (TabG.low hTG108 (low0 (low0 (low1 hN118.grw hS121.grw (Nat.le_trans ((World.grownBy.refl _ none)).size (Nat.le_of_eq hN118.eq.symm))) hg124) hg196))) hTl115 (by omega)) ?_
    rintro _ w200 ⟨rfl, hg201⟩
    have hb202 := low0 hb197 hg201
    have hck203 := Z4 (ts := tabT ms106) (q := q107)
    refine X4 (q := true) rfl rfl (by simp) rfl ?_
    refine Xh (v := .bool true) rfl rfl ?_
    refine Xa ?_
    refine Xs ?_
    refine Yi ?_
    refine ⟨.bool true, Yq rfl rfl, ?_, hb202⟩
    rfl
   ·
    have h204 := Qx h198
    have h205 := Qx h204
    have h206 := Qx h205
    have h207 := Qx h206
    have h208 := Qy h206
    have h209 := Zh h208
    have h210 := Qy h205
    have h211 := Zh h210
    have hco212 := Z2 h211
    have h213 := Qy h204
    have h214 := of_decide_eq_false h213
    have h215 := Qy h198
    have h216 := Zh h215
    have hkd217 : kindAt (tabT ms106) q107.run 3 = true := Nf (by omega) (of_decide_eq_true h216)
    have hp218 := G0 (q := q107) h209 h211 hkd217
    obtain ⟨hi, hhi⟩ : ∃ n, n = w190.heap.size := ⟨_, rfl⟩
    have hTG219 := (TabG.low hTG108 (low0 (low0 (low1 hN118.grw hS121.grw (Nat.le_trans ((World.grownBy.refl _ none)).size (Nat.le_of_eq hN118.eq.symm))) hg124) hg196))
    have hTH := TabG.hi (TabG.low hTG108 (low0 (low0 (low1 hN118.grw hS121.grw (Nat.le_trans ((World.grownBy.refl _ none)).size (Nat.le_of_eq hN118.eq.symm))) hg124) hg196))
    rw [← hhi] at hTH
    obtain ⟨hT220, hc221, hkd222⟩ := Zs hp218
    have hco223 := Z2 hc221
    have hkp224 := (Z5 hkd222).1
    have h4225 := Jc hT220 hkd222
    have hml226 := K7 hT220
    have h227 := of_decide_eq_true h216
    refine Xy ?_
    refine Xv ?_
    refine Xt ?_
    refine Xb ?_
    refine Xh (v := .int .i64 0) rfl rfl ?_
    refine Xa ?_
    refine Ye ?_
    have k228 := ((hS121.blk.grown0 hg124).grown0 hg196)
    refine Zd (fun mm f' w' => ∃ (k : Nat), mm = 4 - k ∧ k ≤ 4 ∧ TabG w.heap.size w' (some ⟨B104, 0, none⟩) ms106 ∧ hi ≤ w'.heap.size ∧ f' 6 = .int .i64 (k : Int) ∧ f' 3 = .slice (some ⟨B104, 0, none⟩) ms106.length cap105 ∧ f' 4 = .pointer (some ⟨B116, 0, none⟩) ∧ w.grownBy w' none ∧ Blk w' B116 29 #[.int .i64 q107.kind, .int .i64 q107.run, .int .i64 q107.a, .int .i64 q107.b, .int .i64 q107.n]) (4 - 0) ⟨0, rfl, (by omega), hTG219, (Nat.le_of_eq hhi), rfl, e192, e193, hb197, k228⟩ ?_
    rintro mm f229 w230 ⟨k, hm232, hk, hGl, hhs, e233, e234, e235, hb231, k236⟩
    refine Xt ?_
    refine Xb ?_
    refine Xc (v := .int .i64 (k : Int)) e233 rfl ?_
    refine Y4 (q := decide ((k : Int) < 4)) rfl rfl rfl rfl ?_
    refine Xa ?_
    refine Xw rfl (fun h237 => ?_) (fun h237 => ?_)
    ·
     have h238 := of_decide_eq_true h237
     refine Xy ?_
     refine Xv ?_
     refine Xt ?_
     refine Ye ?_
     refine Xb ?_
     refine Xc (v := .slice (some ⟨B104, 0, none⟩) ms106.length cap105) e234 rfl ?_
     refine Xd (o' := 1) Zk e235 rfl rfl ?_
     refine Xi (v := .int .i64 q107.run) X3 rfl (k236.cell rfl) rfl ?_
     refine Y3 (c := q107.run - 1) rfl rfl (by omega) (by omega) (by omega) rfl ?_
     obtain ⟨b241, q242, o243, ha244, ho245, hr246⟩ := SlAt.at (TabG.at hGl).1 (Yn (Ya (show (q107.run - 1).toNat < ms106.length by omega)))
     have hle247 := TabLen.at hTl115 (Ya (show (q107.run - 1).toNat < ms106.length by omega))
     refine Yd Zl rfl rfl ha244 ho245 (by omega) (by omega) rfl ?_
     refine Xd (o' := o243 + 5) Zt rfl rfl rfl ?_
     refine Xi (v := .slice ((mAt ms106 ((q107.run - 1).toNat)).sa) ((mAt ms106 ((q107.run - 1).toNat)).t.slots.length) ((mAt ms106 ((q107.run - 1).toNat)).sc)) Qq rfl (hr246 5 _ rfl) rfl ?_
     refine Xc (v := .int .i64 (k : Int)) e233 rfl ?_
     obtain ⟨b250, q251, o252, ha253, ho254, hr255⟩ := SlAt.at (TabAt.th (TabG.at hGl) (Ya (show (q107.run - 1).toNat < ms106.length by omega))).1 (Yn (Qg (show k < (mAt ms106 ((q107.run - 1).toNat)).t.slots.length by omega)))
     have hts256 := Ku hT220 (show ((q107.run - 1).toNat) < ms106.length by omega) (show k < (mAt ms106 ((q107.run - 1).toNat)).t.slots.length by omega)
     refine Yd Ka rfl rfl ha253 ho254 (by omega) (by omega) rfl ?_
     refine Xu (vs := [.int .i64 ((rAt (mAt ms106 ((q107.run - 1).toNat)).t.slots k).th), .int .i64 ((rAt (mAt ms106 ((q107.run - 1).toNat)).t.slots k).ve), .bool ((rAt (mAt ms106 ((q107.run - 1).toNat)).t.slots k).rd), .bool ((rAt (mAt ms106 ((q107.run - 1).toNat)).t.slots k).wr), .bool ((rAt (mAt ms106 ((q107.run - 1).toNat)).t.slots k).wk)]) Y8 rfl rfl (Za hr255 0 5 rfl) rfl ?_
     refine Yj (cs := #[.int .i64 0, .int .i64 0, .bool false, .bool false, .bool false]) J3 rfl rfl ?_
     intro B257 w258 hN259
     have hlB257 := Yf hN259 hb231
     have hhiB257 : hi ≤ B257 := Nat.le_trans hhs (Nat.le_of_eq hN259.eq.symm)
     have lt_B116_B257 := Xq hN259 (k236).lt
     have hb260 := low0 hb231 hN259.grw
     refine Xz (vs := [.int .i64 ((rAt (mAt ms106 ((q107.run - 1).toNat)).t.slots k).th), .int .i64 ((rAt (mAt ms106 ((q107.run - 1).toNat)).t.slots k).ve), .bool ((rAt (mAt ms106 ((q107.run - 1).toNat)).t.slots k).rd), .bool ((rAt (mAt ms106 ((q107.run - 1).toNat)).t.slots k).wr), .bool ((rAt (mAt ms106 ((q107.run - 1).toNat)).t.slots k).wk)]) (cs' := #[.int .i64 ((rAt (mAt ms106 ((q107.run - 1).toNat)).t.slots k).th), .int .i64 ((rAt (mAt ms106 ((q107.run - 1).toNat)).t.slots k).ve), .bool ((rAt (mAt ms106 ((q107.run - 1).toNat)).t.slots k).rd), .bool ((rAt (mAt ms106 ((q107.run - 1).toNat)).t.slots k).wr), .bool ((rAt (mAt ms106 ((q107.run - 1).toNat)).t.slots k).wk)]) Y8 rfl rfl rfl (by simp [Value.oneCell']) hN259.blk (Nat.le_of_ble_eq_true rfl) rfl ?_
     intro w261 hS262
     have hb263 := low1 hb260 hS262.grw (by omega)
     refine Xa ?_
     refine Xt ?_
     refine X2 (fun f' w' => (f' 3 = .slice (some ⟨B104, 0, none⟩) ms106.length cap105 ∧ f' 4 = .pointer (some ⟨B116, 0, none⟩) ∧ f' 6 = .int .i64 (k : Int) ∧ f' 7 = .pointer (some ⟨B257, 0, none⟩) ∧ f' 84 = .bool ((decide ((rAt (mAt ms106 ((q107.run - 1).toNat)).t.slots k).th = 0)) || (!(decide ((mAt ms106 ((((rAt (mAt ms106 ((q107.run - 1).toNat)).t.slots k).th) - 1).toNat)).t.kind = 1))))) ∧ w261 = w') ?_ ?_
     ·
      refine Xd (o' := 0) Yp rfl rfl rfl ?_
      refine Xi (v := .int .i64 ((rAt (mAt ms106 ((q107.run - 1).toNat)).t.slots k).th)) X3 rfl (hS262.blk.cell rfl) rfl ?_
      refine X4 (q := decide ((rAt (mAt ms106 ((q107.run - 1).toNat)).t.slots k).th = 0)) rfl rfl rfl rfl ?_
      refine Xc (v := .bool (decide ((rAt (mAt ms106 ((q107.run - 1).toNat)).t.slots k).th = 0))) rfl rfl ?_
      rcases Yb (decide ((rAt (mAt ms106 ((q107.run - 1).toNat)).t.slots k).th = 0)) with h274 | h274
      ·
       have h275 := of_decide_eq_true h274
       iterate 8 refine Xk rfl rfl rfl h274 rfl ?_
       refine Xr (v := .bool true) rfl h274 rfl rfl ?_
       exact Xa ⟨⟨e234, e235, e233, rfl, (congrArg Value.bool (by first | (simp only [h101, h198, h204, h205, h206, h207, h208, h210, h213, h215, h216, h237, h274, hT220, hc221, hkd222, hp218, b0, b1, b2, b3, b4, b5, b6, b7, b8, b9]; done) | simp [h101, h198, h204, h205, h206, h207, h208, h210, h213, h215, h216, h237, h274, hT220, hc221, hkd222, hp218]))⟩, rfl⟩
      ·
       have h276 := of_decide_eq_false h274
       refine Xe rfl rfl rfl h274 ?_
       refine Xc (v := .slice (some ⟨B104, 0, none⟩) ms106.length cap105) e234 rfl ?_
       refine Xe rfl rfl rfl h274 ?_
       refine Xd (o' := 0) Yp rfl rfl rfl ?_
       refine Xe rfl rfl rfl h274 ?_
       refine Xi (v := .int .i64 ((rAt (mAt ms106 ((q107.run - 1).toNat)).t.slots k).th)) X3 rfl (hS262.blk.cell rfl) rfl ?_
       refine Xe rfl rfl rfl h274 ?_
       refine Y3 (c := ((rAt (mAt ms106 ((q107.run - 1).toNat)).t.slots k).th) - 1) rfl rfl (by omega) (by omega) (by omega) rfl ?_
       refine Xe rfl rfl rfl h274 ?_
       have hTG285 := (TabG.ge (TabG.low hGl hN259.grw) hS262.grw hTH (by omega))
       obtain ⟨b279, q280, o281, ha282, ho283, hr284⟩ := SlAt.at (TabG.at hTG285).1 (Yn (Ya (show (((rAt (mAt ms106 ((q107.run - 1).toNat)).t.slots k).th) - 1).toNat < ms106.length by omega)))
       have hle286 := TabLen.at hTl115 (Ya (show (((rAt (mAt ms106 ((q107.run - 1).toNat)).t.slots k).th) - 1).toNat < ms106.length by omega))
       refine Yd Zl rfl rfl ha282 ho283 (by omega) (by omega) rfl ?_
       refine Xe rfl rfl rfl h274 ?_
       refine Xd (o' := o281) Yt rfl rfl rfl ?_
       refine Xe rfl rfl rfl h274 ?_
       refine Xi (v := .int .i64 ((mAt ms106 ((((rAt (mAt ms106 ((q107.run - 1).toNat)).t.slots k).th) - 1).toNat)).t.kind)) X3 rfl (hr284 0 _ rfl) rfl ?_
       refine Xe rfl rfl rfl h274 ?_
       refine Y7 (q := !(decide ((mAt ms106 ((((rAt (mAt ms106 ((q107.run - 1).toNat)).t.slots k).th) - 1).toNat)).t.kind = 1))) rfl rfl rfl rfl ?_
       refine Xl (v := .bool (!(decide ((mAt ms106 ((((rAt (mAt ms106 ((q107.run - 1).toNat)).t.slots k).th) - 1).toNat)).t.kind = 1)))) rfl h274 rfl rfl ?_
       exact Xa ⟨⟨e234, e235, e233, rfl, (congrArg Value.bool (by first | (simp only [h101, h198, h204, h205, h206, h207, h208, h210, h213, h215, h216, h237, h274, hT220, hc221, hkd222, hp218, b0, b1, b2, b3, b4, b5, b6, b7, b8, b9]; done) | simp [h101, h198, h204, h205, h206, h207, h208, h210, h213, h215, h216, h237, h274, hT220, hc221, hkd222, hp218]))⟩, rfl⟩
     ·
      rintro f287 w288 ⟨⟨e289, e290, e291, e292, e293⟩, rfl⟩
      refine Xw e293 (fun h294 => ?_) (fun h294 => ?_)
      ·
       refine Y5 ?_
       refine Y2 ?_
       refine Z1 ?_
       refine Xv ?_
       refine X1 ?_
       refine Xc (v := .int .i64 (k : Int)) e291 rfl ?_
       refine Yx (c := (k : Int) + 1) rfl rfl (by omega) (by omega) (by omega) rfl ?_
       refine Xh (v := .int .i64 ((k : Int) + 1)) rfl rfl ?_
       refine Xa ?_
       refine Xv ?_
       have hTG295 := (TabG.ge (TabG.low hGl hN259.grw) hS262.grw hTH (by omega))
       have k296 := ((k236.grown0 hN259.grw).grown hS262.grw (Xf (by omega)))
       exact ⟨4 - (k + 1), by omega, (k + 1), rfl, (by omega), hTG295, (Nat.le_trans (Nat.le_trans hhs hN259.grw.size) hS262.grw.size), rfl, e289, e290, hb263, k296⟩
      ·
       have h297 := Qx h294
       have h298 := of_decide_eq_false h297
       have h299 := Qy h294
       have h300 := Zh h299
       have h301 := of_decide_eq_true h300
       refine Xy ?_
       refine Xv ?_
       refine Xb ?_
       refine Xc (v := .slice (some ⟨B104, 0, none⟩) ms106.length cap105) e289 rfl ?_
       refine Xd (o' := 1) Zk e290 rfl rfl ?_
       have k302 := ((k236.grown0 hN259.grw).grown hS262.grw (Xf (by omega)))
       refine Xi (v := .int .i64 q107.run) X3 rfl (k302.cell rfl) rfl ?_
       refine Xc (v := .int .i64 (k : Int)) e291 rfl ?_
       refine Yw (ps := [(0, .int .i64 1), (1, .int .i64 q107.run), (2, .int .i64 (k : Int))]) (v := .agg #[.int .i64 1, .int .i64 q107.run, .int .i64 (k : Int), .int .i64 0, .int .i64 0]) (Xp rfl (Xp rfl (Xp rfl X9))) (by kernel_rfl) rfl ?_
       have hTG303 := (TabG.ge (TabG.low hGl hN259.grw) hS262.grw hTH (by omega))
       refine Xn (vs := [.slice (some ⟨B104, 0, none⟩) ms106.length cap105, .agg #[.int .i64 1, .int .i64 q107.run, .int .i64 (k : Int), .int .i64 0, .int .i64 0]]) Wk (Xg rfl (Xg rfl Xm)) rfl (Q8 ⟨1, q107.run, (k : Int), 0, 0⟩ _ ms106 _ _ (TabG.at hTG303) hTl115 (by omega) (ErrT.grown0 hE hb263)) ?_
       rintro _ w304 ⟨rfl, hg305⟩
       have hb306 := low0 hb263 hg305
       have hck307 := Z4 (ts := tabT ms106) (q := ⟨1, q107.run, (k : Int), 0, 0⟩)
       refine Xh (v := .int .i64 (chkAll (tabT ms106) ⟨1, q107.run, (k : Int), 0, 0⟩)) rfl rfl ?_
       refine Xa ?_
       refine Xb ?_
       refine Xc (v := .slice (some ⟨B104, 0, none⟩) ms106.length cap105) e289 rfl ?_
       refine Xd (o' := 1) Zk e290 rfl rfl ?_
       have k308 := (k302.grown0 hg305)
       refine Xi (v := .int .i64 q107.run) X3 rfl (k308.cell rfl) rfl ?_
       refine Xc (v := .int .i64 (k : Int)) e291 rfl ?_
       refine Yw (ps := [(0, .int .i64 2), (1, .int .i64 q107.run), (2, .int .i64 (k : Int))]) (v := .agg #[.int .i64 2, .int .i64 q107.run, .int .i64 (k : Int), .int .i64 0, .int .i64 0]) (Xp rfl (Xp rfl (Xp rfl X9))) (by kernel_rfl) rfl ?_
       have hTG309 := (TabG.low hTG303 hg305)
       refine Xn (vs := [.slice (some ⟨B104, 0, none⟩) ms106.length cap105, .agg #[.int .i64 2, .int .i64 q107.run, .int .i64 (k : Int), .int .i64 0, .int .i64 0]]) Wk (Xg rfl (Xg rfl Xm)) rfl (Q8 ⟨2, q107.run, (k : Int), 0, 0⟩ _ ms106 _ _ (TabG.at hTG309) hTl115 (by omega) (ErrT.grown0 hE hb306)) ?_
       rintro _ w310 ⟨rfl, hg311⟩
       have hb312 := low0 hb306 hg311
       have hck313 := Z4 (ts := tabT ms106) (q := ⟨2, q107.run, (k : Int), 0, 0⟩)
       refine Xh (v := .int .i64 (chkAll (tabT ms106) ⟨2, q107.run, (k : Int), 0, 0⟩)) rfl rfl ?_
       refine Xa ?_
       refine X2 (fun f' w' => (f' 3 = .slice (some ⟨B104, 0, none⟩) ms106.length cap105 ∧ f' 4 = .pointer (some ⟨B116, 0, none⟩) ∧ f' 6 = .int .i64 (k : Int) ∧ f' 128 = .bool ((((rAt (mAt ms106 ((q107.run - 1).toNat)).t.slots k).rd && (!chkSees (tabT ms106) q107.run ((rAt (mAt ms106 ((q107.run - 1).toNat)).t.slots k).th))) && (!(decide (chkAll (tabT ms106) ⟨1, q107.run, (k : Int), 0, 0⟩ = (-2))))) || (((rAt (mAt ms106 ((q107.run - 1).toNat)).t.slots k).wr && (!chkTouches (tabT ms106) q107.run ((rAt (mAt ms106 ((q107.run - 1).toNat)).t.slots k).th))) && (!(decide (chkAll (tabT ms106) ⟨2, q107.run, (k : Int), 0, 0⟩ = (-2))))))) ∧ w310.grownBy w' none) ?_ ?_
       ·
        refine Xd (o' := 2) Jj e292 rfl rfl ?_
        have k327 := ((hS262.blk.grown0 hg305).grown0 hg311)
        refine Xi (v := .bool ((rAt (mAt ms106 ((q107.run - 1).toNat)).t.slots k).rd)) Zv rfl (k327.cell rfl) rfl ?_
        refine Xc (v := .bool ((rAt (mAt ms106 ((q107.run - 1).toNat)).t.slots k).rd)) rfl rfl ?_
        rcases Yb ((rAt (mAt ms106 ((q107.run - 1).toNat)).t.slots k).rd) with h328 | h328
        ·
         refine Xe rfl rfl rfl h328 ?_
         refine Xc (v := .slice (some ⟨B104, 0, none⟩) ms106.length cap105) e289 rfl ?_
         refine Xe rfl rfl rfl h328 ?_
         refine Xd (o' := 1) Zk e290 rfl rfl ?_
         refine Xe rfl rfl rfl h328 ?_
         have k329 := (k308.grown0 hg311)
         refine Xi (v := .int .i64 q107.run) X3 rfl (k329.cell rfl) rfl ?_
         refine Xe rfl rfl rfl h328 ?_
         refine Xd (o' := 0) Yp e292 rfl rfl ?_
         refine Xe rfl rfl rfl h328 ?_
         refine Xi (v := .int .i64 ((rAt (mAt ms106 ((q107.run - 1).toNat)).t.slots k).th)) X3 rfl (k327.cell rfl) rfl ?_
         refine Xe rfl rfl rfl h328 ?_
         have hTG330 := (TabG.low hTG309 hg311)
         refine Xn (vs := [.slice (some ⟨B104, 0, none⟩) ms106.length cap105, .int .i64 q107.run, .int .i64 ((rAt (mAt ms106 ((q107.run - 1).toNat)).t.slots k).th)]) P8 (Xg rfl (Xg rfl (Xg rfl Xm))) rfl (K3 q107.run ((rAt (mAt ms106 ((q107.run - 1).toNat)).t.slots k).th) (by omega) _ ms106 _ _ (TabG.at hTG330) hTl115 (by omega)) ?_
         rintro _ w331 ⟨rfl, hg332⟩
         have hb333 := low0 hb312 hg332
         refine Xe rfl rfl rfl h328 ?_
         refine Yk (b' := !chkSees (tabT ms106) q107.run ((rAt (mAt ms106 ((q107.run - 1).toNat)).t.slots k).th)) rfl rfl rfl ?_
         refine Xr (v := .bool (!chkSees (tabT ms106) q107.run ((rAt (mAt ms106 ((q107.run - 1).toNat)).t.slots k).th))) rfl h328 rfl rfl ?_
         refine Xc (v := .bool (!chkSees (tabT ms106) q107.run ((rAt (mAt ms106 ((q107.run - 1).toNat)).t.slots k).th))) rfl rfl ?_
         rcases Yb (!chkSees (tabT ms106) q107.run ((rAt (mAt ms106 ((q107.run - 1).toNat)).t.slots k).th)) with h334 | h334
         ·
          have h335 := Zn h334
          refine Xe rfl rfl rfl h334 ?_
          refine Xc (v := .int .i64 (chkAll (tabT ms106) ⟨1, q107.run, (k : Int), 0, 0⟩)) rfl rfl ?_
          refine Xe rfl rfl rfl h334 ?_
          refine Y7 (q := !(decide (chkAll (tabT ms106) ⟨1, q107.run, (k : Int), 0, 0⟩ = (-2)))) rfl rfl rfl rfl ?_
          refine Xr (v := .bool (!(decide (chkAll (tabT ms106) ⟨1, q107.run, (k : Int), 0, 0⟩ = (-2))))) rfl h334 rfl rfl ?_
          refine Xc (v := .bool (!(decide (chkAll (tabT ms106) ⟨1, q107.run, (k : Int), 0, 0⟩ = (-2))))) rfl rfl ?_
          rcases Yb (!(decide (chkAll (tabT ms106) ⟨1, q107.run, (k : Int), 0, 0⟩ = (-2)))) with h336 | h336
          ·
           have h337 := Zn h336
           have h338 := of_decide_eq_false h337
           iterate 3 refine Xk rfl rfl rfl h336 rfl ?_
           iterate 7 refine Yg rfl rfl rfl rfl ?_
           refine Xk rfl rfl rfl h336 rfl ?_
           refine Xk rfl rfl rfl h336 rfl ?_
           refine Yg rfl rfl rfl rfl ?_
           refine Yg rfl rfl rfl rfl ?_
           refine Xk rfl rfl rfl h336 rfl ?_
           refine Xr (v := .bool true) rfl h336 rfl rfl ?_
           exact Xa ⟨⟨e289, e290, e291, (congrArg Value.bool (by first | (simp only [h101, h198, h204, h205, h206, h207, h208, h210, h213, h215, h216, h237, h294, h297, h299, h300, h328, h334, h335, h336, h337, hT220, hc221, hkd222, hp218, b0, b1, b2, b3, b4, b5, b6, b7, b8, b9]; done) | simp [h101, h198, h204, h205, h206, h207, h208, h210, h213, h215, h216, h237, h294, h297, h299, h300, h328, h334, h335, h336, h337, hT220, hc221, hkd222, hp218]))⟩, hg332⟩
          ·
           have h339 := Zh h336
           have h340 := of_decide_eq_true h339
           refine Xe rfl rfl rfl h336 ?_
           refine Xd (o' := 3) Qv e292 rfl rfl ?_
           refine Xe rfl rfl rfl h336 ?_
           have k341 := (k327.grown0 hg332)
           refine Xi (v := .bool ((rAt (mAt ms106 ((q107.run - 1).toNat)).t.slots k).wr)) Zv rfl (k341.cell rfl) rfl ?_
           refine Xe rfl rfl rfl h336 ?_
           refine Xc (v := .bool ((rAt (mAt ms106 ((q107.run - 1).toNat)).t.slots k).wr)) rfl rfl ?_
           rcases Yb ((rAt (mAt ms106 ((q107.run - 1).toNat)).t.slots k).wr) with h342 | h342
           ·
            refine Xe rfl rfl rfl h342 ?_
            refine Xc (v := .slice (some ⟨B104, 0, none⟩) ms106.length cap105) e289 rfl ?_
            refine Xe rfl rfl rfl h342 ?_
            refine Xd (o' := 1) Zk e290 rfl rfl ?_
            refine Xe rfl rfl rfl h342 ?_
            have k343 := (k329.grown0 hg332)
            refine Xi (v := .int .i64 q107.run) X3 rfl (k343.cell rfl) rfl ?_
            refine Xe rfl rfl rfl h342 ?_
            refine Xd (o' := 0) Yp e292 rfl rfl ?_
            refine Xe rfl rfl rfl h342 ?_
            refine Xi (v := .int .i64 ((rAt (mAt ms106 ((q107.run - 1).toNat)).t.slots k).th)) X3 rfl (k341.cell rfl) rfl ?_
            refine Xe rfl rfl rfl h342 ?_
            have hTG344 := (TabG.low hTG330 hg332)
            refine Xn (vs := [.slice (some ⟨B104, 0, none⟩) ms106.length cap105, .int .i64 q107.run, .int .i64 ((rAt (mAt ms106 ((q107.run - 1).toNat)).t.slots k).th)]) Lq (Xg rfl (Xg rfl (Xg rfl Xm))) rfl (Ja q107.run ((rAt (mAt ms106 ((q107.run - 1).toNat)).t.slots k).th) (by omega) _ ms106 _ _ (TabG.at hTG344) hTl115 (by omega)) ?_
            rintro _ w345 ⟨rfl, hg346⟩
            have hb347 := low0 hb333 hg346
            refine Xe rfl rfl rfl h342 ?_
            refine Yk (b' := !chkTouches (tabT ms106) q107.run ((rAt (mAt ms106 ((q107.run - 1).toNat)).t.slots k).th)) rfl rfl rfl ?_
            refine Xe rfl rfl rfl h336 ?_
            refine Xr (v := .bool (!chkTouches (tabT ms106) q107.run ((rAt (mAt ms106 ((q107.run - 1).toNat)).t.slots k).th))) rfl h342 rfl rfl ?_
            refine Xe rfl rfl rfl h336 ?_
            refine Xc (v := .bool (!chkTouches (tabT ms106) q107.run ((rAt (mAt ms106 ((q107.run - 1).toNat)).t.slots k).th))) rfl rfl ?_
            rcases Yb (!chkTouches (tabT ms106) q107.run ((rAt (mAt ms106 ((q107.run - 1).toNat)).t.slots k).th)) with h348 | h348
            ·
             have h349 := Zn h348
             refine Xe rfl rfl rfl h348 ?_
             refine Xc (v := .int .i64 (chkAll (tabT ms106) ⟨2, q107.run, (k : Int), 0, 0⟩)) rfl rfl ?_
             refine Xe rfl rfl rfl h348 ?_
             refine Y7 (q := !(decide (chkAll (tabT ms106) ⟨2, q107.run, (k : Int), 0, 0⟩ = (-2)))) rfl rfl rfl rfl ?_
             refine Xe rfl rfl rfl h336 ?_
             refine Xr (v := .bool (!(decide (chkAll (tabT ms106) ⟨2, q107.run, (k : Int), 0, 0⟩ = (-2))))) rfl h348 rfl rfl ?_
             refine Xl (v := .bool (!(decide (chkAll (tabT ms106) ⟨2, q107.run, (k : Int), 0, 0⟩ = (-2))))) rfl h336 rfl rfl ?_
             exact Xa ⟨⟨e289, e290, e291, (congrArg Value.bool (by first | (simp only [h101, h198, h204, h205, h206, h207, h208, h210, h213, h215, h216, h237, h294, h297, h299, h300, h328, h334, h335, h336, h339, h342, h348, h349, hT220, hc221, hkd222, hp218, b0, b1, b2, b3, b4, b5, b6, b7, b8, b9]; done) | simp [h101, h198, h204, h205, h206, h207, h208, h210, h213, h215, h216, h237, h294, h297, h299, h300, h328, h334, h335, h336, h339, h342, h348, h349, hT220, hc221, hkd222, hp218]))⟩, (grown_trans hg332 hg346)⟩
            ·
             have h350 := Zh h348
             refine Xk rfl rfl rfl h348 rfl ?_
             refine Xk rfl rfl rfl h348 rfl ?_
             refine Xe rfl rfl rfl h336 ?_
             refine Xl (v := .bool false) rfl h348 rfl rfl ?_
             refine Xl (v := .bool false) rfl h336 rfl rfl ?_
             exact Xa ⟨⟨e289, e290, e291, (congrArg Value.bool (by first | (simp only [h101, h198, h204, h205, h206, h207, h208, h210, h213, h215, h216, h237, h294, h297, h299, h300, h328, h334, h335, h336, h339, h342, h348, h350, hT220, hc221, hkd222, hp218, b0, b1, b2, b3, b4, b5, b6, b7, b8, b9]; done) | simp [h101, h198, h204, h205, h206, h207, h208, h210, h213, h215, h216, h237, h294, h297, h299, h300, h328, h334, h335, h336, h339, h342, h348, h350, hT220, hc221, hkd222, hp218]))⟩, (grown_trans hg332 hg346)⟩
           ·
            iterate 7 refine Xk rfl rfl rfl h342 rfl ?_
            refine Xe rfl rfl rfl h336 ?_
            refine Xl (v := .bool false) rfl h342 rfl rfl ?_
            refine Xe rfl rfl rfl h336 ?_
            refine Xc (v := .bool false) rfl rfl ?_
            refine Xk rfl rfl rfl rfl rfl ?_
            refine Xk rfl rfl rfl rfl rfl ?_
            refine Xe rfl rfl rfl h336 ?_
            refine Xl (v := .bool false) rfl rfl rfl rfl ?_
            refine Xl (v := .bool false) rfl h336 rfl rfl ?_
            exact Xa ⟨⟨e289, e290, e291, (congrArg Value.bool (by first | (simp only [h101, h198, h204, h205, h206, h207, h208, h210, h213, h215, h216, h237, h294, h297, h299, h300, h328, h334, h335, h336, h339, h342, hT220, hc221, hkd222, hp218, b0, b1, b2, b3, b4, b5, b6, b7, b8, b9]; done) | simp [h101, h198, h204, h205, h206, h207, h208, h210, h213, h215, h216, h237, h294, h297, h299, h300, h328, h334, h335, h336, h339, h342, hT220, hc221, hkd222, hp218]))⟩, hg332⟩
         ·
          have h351 := Zh h334
          refine Xk rfl rfl rfl h334 rfl ?_
          refine Xk rfl rfl rfl h334 rfl ?_
          refine Xl (v := .bool false) rfl h334 rfl rfl ?_
          refine Xc (v := .bool false) rfl rfl ?_
          refine Xe rfl rfl rfl rfl ?_
          refine Xd (o' := 3) Qv e292 rfl rfl ?_
          refine Xe rfl rfl rfl rfl ?_
          have k352 := (k327.grown0 hg332)
          refine Xi (v := .bool ((rAt (mAt ms106 ((q107.run - 1).toNat)).t.slots k).wr)) Zv rfl (k352.cell rfl) rfl ?_
          refine Xe rfl rfl rfl rfl ?_
          refine Xc (v := .bool ((rAt (mAt ms106 ((q107.run - 1).toNat)).t.slots k).wr)) rfl rfl ?_
          rcases Yb ((rAt (mAt ms106 ((q107.run - 1).toNat)).t.slots k).wr) with h353 | h353
          ·
           refine Xe rfl rfl rfl h353 ?_
           refine Xc (v := .slice (some ⟨B104, 0, none⟩) ms106.length cap105) e289 rfl ?_
           refine Xe rfl rfl rfl h353 ?_
           refine Xd (o' := 1) Zk e290 rfl rfl ?_
           refine Xe rfl rfl rfl h353 ?_
           have k354 := (k329.grown0 hg332)
           refine Xi (v := .int .i64 q107.run) X3 rfl (k354.cell rfl) rfl ?_
           refine Xe rfl rfl rfl h353 ?_
           refine Xd (o' := 0) Yp e292 rfl rfl ?_
           refine Xe rfl rfl rfl h353 ?_
           refine Xi (v := .int .i64 ((rAt (mAt ms106 ((q107.run - 1).toNat)).t.slots k).th)) X3 rfl (k352.cell rfl) rfl ?_
           refine Xe rfl rfl rfl h353 ?_
           have hTG355 := (TabG.low hTG330 hg332)
           refine Xn (vs := [.slice (some ⟨B104, 0, none⟩) ms106.length cap105, .int .i64 q107.run, .int .i64 ((rAt (mAt ms106 ((q107.run - 1).toNat)).t.slots k).th)]) Lq (Xg rfl (Xg rfl (Xg rfl Xm))) rfl (Ja q107.run ((rAt (mAt ms106 ((q107.run - 1).toNat)).t.slots k).th) (by omega) _ ms106 _ _ (TabG.at hTG355) hTl115 (by omega)) ?_
           rintro _ w356 ⟨rfl, hg357⟩
           have hb358 := low0 hb333 hg357
           refine Xe rfl rfl rfl h353 ?_
           refine Yk (b' := !chkTouches (tabT ms106) q107.run ((rAt (mAt ms106 ((q107.run - 1).toNat)).t.slots k).th)) rfl rfl rfl ?_
           refine Xe rfl rfl rfl rfl ?_
           refine Xr (v := .bool (!chkTouches (tabT ms106) q107.run ((rAt (mAt ms106 ((q107.run - 1).toNat)).t.slots k).th))) rfl h353 rfl rfl ?_
           refine Xe rfl rfl rfl rfl ?_
           refine Xc (v := .bool (!chkTouches (tabT ms106) q107.run ((rAt (mAt ms106 ((q107.run - 1).toNat)).t.slots k).th))) rfl rfl ?_
           rcases Yb (!chkTouches (tabT ms106) q107.run ((rAt (mAt ms106 ((q107.run - 1).toNat)).t.slots k).th)) with h359 | h359
           ·
            have h360 := Zn h359
            refine Xe rfl rfl rfl h359 ?_
            refine Xc (v := .int .i64 (chkAll (tabT ms106) ⟨2, q107.run, (k : Int), 0, 0⟩)) rfl rfl ?_
            refine Xe rfl rfl rfl h359 ?_
            refine Y7 (q := !(decide (chkAll (tabT ms106) ⟨2, q107.run, (k : Int), 0, 0⟩ = (-2)))) rfl rfl rfl rfl ?_
            refine Xe rfl rfl rfl rfl ?_
            refine Xr (v := .bool (!(decide (chkAll (tabT ms106) ⟨2, q107.run, (k : Int), 0, 0⟩ = (-2))))) rfl h359 rfl rfl ?_
            refine Xl (v := .bool (!(decide (chkAll (tabT ms106) ⟨2, q107.run, (k : Int), 0, 0⟩ = (-2))))) rfl rfl rfl rfl ?_
            exact Xa ⟨⟨e289, e290, e291, (congrArg Value.bool (by first | (simp only [h101, h198, h204, h205, h206, h207, h208, h210, h213, h215, h216, h237, h294, h297, h299, h300, h328, h334, h351, h353, h359, h360, hT220, hc221, hkd222, hp218, b0, b1, b2, b3, b4, b5, b6, b7, b8, b9]; done) | simp [h101, h198, h204, h205, h206, h207, h208, h210, h213, h215, h216, h237, h294, h297, h299, h300, h328, h334, h351, h353, h359, h360, hT220, hc221, hkd222, hp218]))⟩, (grown_trans hg332 hg357)⟩
           ·
            have h361 := Zh h359
            refine Xk rfl rfl rfl h359 rfl ?_
            refine Xk rfl rfl rfl h359 rfl ?_
            refine Xe rfl rfl rfl rfl ?_
            refine Xl (v := .bool false) rfl h359 rfl rfl ?_
            refine Xl (v := .bool false) rfl rfl rfl rfl ?_
            exact Xa ⟨⟨e289, e290, e291, (congrArg Value.bool (by first | (simp only [h101, h198, h204, h205, h206, h207, h208, h210, h213, h215, h216, h237, h294, h297, h299, h300, h328, h334, h351, h353, h359, h361, hT220, hc221, hkd222, hp218, b0, b1, b2, b3, b4, b5, b6, b7, b8, b9]; done) | simp [h101, h198, h204, h205, h206, h207, h208, h210, h213, h215, h216, h237, h294, h297, h299, h300, h328, h334, h351, h353, h359, h361, hT220, hc221, hkd222, hp218]))⟩, (grown_trans hg332 hg357)⟩
          ·
           iterate 7 refine Xk rfl rfl rfl h353 rfl ?_
           refine Xe rfl rfl rfl rfl ?_
           refine Xl (v := .bool false) rfl h353 rfl rfl ?_
           refine Xe rfl rfl rfl rfl ?_
           refine Xc (v := .bool false) rfl rfl ?_
           refine Xk rfl rfl rfl rfl rfl ?_
           refine Xk rfl rfl rfl rfl rfl ?_
           refine Xe rfl rfl rfl rfl ?_
           refine Xl (v := .bool false) rfl rfl rfl rfl ?_
           refine Xl (v := .bool false) rfl rfl rfl rfl ?_
           exact Xa ⟨⟨e289, e290, e291, (congrArg Value.bool (by first | (simp only [h101, h198, h204, h205, h206, h207, h208, h210, h213, h215, h216, h237, h294, h297, h299, h300, h328, h334, h351, h353, hT220, hc221, hkd222, hp218, b0, b1, b2, b3, b4, b5, b6, b7, b8, b9]; done) | simp [h101, h198, h204, h205, h206, h207, h208, h210, h213, h215, h216, h237, h294, h297, h299, h300, h328, h334, h351, h353, hT220, hc221, hkd222, hp218]))⟩, hg332⟩
        ·
         iterate 7 refine Xk rfl rfl rfl h328 rfl ?_
         refine Xl (v := .bool false) rfl h328 rfl rfl ?_
         refine Xc (v := .bool false) rfl rfl ?_
         refine Xk rfl rfl rfl rfl rfl ?_
         refine Xk rfl rfl rfl rfl rfl ?_
         refine Xl (v := .bool false) rfl rfl rfl rfl ?_
         refine Xc (v := .bool false) rfl rfl ?_
         refine Xe rfl rfl rfl rfl ?_
         refine Xd (o' := 3) Qv e292 rfl rfl ?_
         refine Xe rfl rfl rfl rfl ?_
         refine Xi (v := .bool ((rAt (mAt ms106 ((q107.run - 1).toNat)).t.slots k).wr)) Zv rfl (k327.cell rfl) rfl ?_
         refine Xe rfl rfl rfl rfl ?_
         refine Xc (v := .bool ((rAt (mAt ms106 ((q107.run - 1).toNat)).t.slots k).wr)) rfl rfl ?_
         rcases Yb ((rAt (mAt ms106 ((q107.run - 1).toNat)).t.slots k).wr) with h362 | h362
         ·
          refine Xe rfl rfl rfl h362 ?_
          refine Xc (v := .slice (some ⟨B104, 0, none⟩) ms106.length cap105) e289 rfl ?_
          refine Xe rfl rfl rfl h362 ?_
          refine Xd (o' := 1) Zk e290 rfl rfl ?_
          refine Xe rfl rfl rfl h362 ?_
          have k363 := (k308.grown0 hg311)
          refine Xi (v := .int .i64 q107.run) X3 rfl (k363.cell rfl) rfl ?_
          refine Xe rfl rfl rfl h362 ?_
          refine Xd (o' := 0) Yp e292 rfl rfl ?_
          refine Xe rfl rfl rfl h362 ?_
          refine Xi (v := .int .i64 ((rAt (mAt ms106 ((q107.run - 1).toNat)).t.slots k).th)) X3 rfl (k327.cell rfl) rfl ?_
          refine Xe rfl rfl rfl h362 ?_
          have hTG364 := (TabG.low hTG309 hg311)
          refine Xn (vs := [.slice (some ⟨B104, 0, none⟩) ms106.length cap105, .int .i64 q107.run, .int .i64 ((rAt (mAt ms106 ((q107.run - 1).toNat)).t.slots k).th)]) Lq (Xg rfl (Xg rfl (Xg rfl Xm))) rfl (Ja q107.run ((rAt (mAt ms106 ((q107.run - 1).toNat)).t.slots k).th) (by omega) _ ms106 _ _ (TabG.at hTG364) hTl115 (by omega)) ?_
          rintro _ w365 ⟨rfl, hg366⟩
          have hb367 := low0 hb312 hg366
          refine Xe rfl rfl rfl h362 ?_
          refine Yk (b' := !chkTouches (tabT ms106) q107.run ((rAt (mAt ms106 ((q107.run - 1).toNat)).t.slots k).th)) rfl rfl rfl ?_
          refine Xe rfl rfl rfl rfl ?_
          refine Xr (v := .bool (!chkTouches (tabT ms106) q107.run ((rAt (mAt ms106 ((q107.run - 1).toNat)).t.slots k).th))) rfl h362 rfl rfl ?_
          refine Xe rfl rfl rfl rfl ?_
          refine Xc (v := .bool (!chkTouches (tabT ms106) q107.run ((rAt (mAt ms106 ((q107.run - 1).toNat)).t.slots k).th))) rfl rfl ?_
          rcases Yb (!chkTouches (tabT ms106) q107.run ((rAt (mAt ms106 ((q107.run - 1).toNat)).t.slots k).th)) with h368 | h368
          ·
           have h369 := Zn h368
           refine Xe rfl rfl rfl h368 ?_
           refine Xc (v := .int .i64 (chkAll (tabT ms106) ⟨2, q107.run, (k : Int), 0, 0⟩)) rfl rfl ?_
           refine Xe rfl rfl rfl h368 ?_
           refine Y7 (q := !(decide (chkAll (tabT ms106) ⟨2, q107.run, (k : Int), 0, 0⟩ = (-2)))) rfl rfl rfl rfl ?_
           refine Xe rfl rfl rfl rfl ?_
           refine Xr (v := .bool (!(decide (chkAll (tabT ms106) ⟨2, q107.run, (k : Int), 0, 0⟩ = (-2))))) rfl h368 rfl rfl ?_
           refine Xl (v := .bool (!(decide (chkAll (tabT ms106) ⟨2, q107.run, (k : Int), 0, 0⟩ = (-2))))) rfl rfl rfl rfl ?_
           exact Xa ⟨⟨e289, e290, e291, (congrArg Value.bool (by first | (simp only [h101, h198, h204, h205, h206, h207, h208, h210, h213, h215, h216, h237, h294, h297, h299, h300, h328, h362, h368, h369, hT220, hc221, hkd222, hp218, b0, b1, b2, b3, b4, b5, b6, b7, b8, b9]; done) | simp [h101, h198, h204, h205, h206, h207, h208, h210, h213, h215, h216, h237, h294, h297, h299, h300, h328, h362, h368, h369, hT220, hc221, hkd222, hp218]))⟩, hg366⟩
          ·
           have h370 := Zh h368
           refine Xk rfl rfl rfl h368 rfl ?_
           refine Xk rfl rfl rfl h368 rfl ?_
           refine Xe rfl rfl rfl rfl ?_
           refine Xl (v := .bool false) rfl h368 rfl rfl ?_
           refine Xl (v := .bool false) rfl rfl rfl rfl ?_
           exact Xa ⟨⟨e289, e290, e291, (congrArg Value.bool (by first | (simp only [h101, h198, h204, h205, h206, h207, h208, h210, h213, h215, h216, h237, h294, h297, h299, h300, h328, h362, h368, h370, hT220, hc221, hkd222, hp218, b0, b1, b2, b3, b4, b5, b6, b7, b8, b9]; done) | simp [h101, h198, h204, h205, h206, h207, h208, h210, h213, h215, h216, h237, h294, h297, h299, h300, h328, h362, h368, h370, hT220, hc221, hkd222, hp218]))⟩, hg366⟩
         ·
          iterate 7 refine Xk rfl rfl rfl h362 rfl ?_
          refine Xe rfl rfl rfl rfl ?_
          refine Xl (v := .bool false) rfl h362 rfl rfl ?_
          refine Xe rfl rfl rfl rfl ?_
          refine Xc (v := .bool false) rfl rfl ?_
          refine Xk rfl rfl rfl rfl rfl ?_
          refine Xk rfl rfl rfl rfl rfl ?_
          refine Xe rfl rfl rfl rfl ?_
          refine Xl (v := .bool false) rfl rfl rfl rfl ?_
          refine Xl (v := .bool false) rfl rfl rfl rfl ?_
          exact Xa ⟨⟨e289, e290, e291, (congrArg Value.bool (by first | (simp only [h101, h198, h204, h205, h206, h207, h208, h210, h213, h215, h216, h237, h294, h297, h299, h300, h328, h362, hT220, hc221, hkd222, hp218, b0, b1, b2, b3, b4, b5, b6, b7, b8, b9]; done) | simp [h101, h198, h204, h205, h206, h207, h208, h210, h213, h215, h216, h237, h294, h297, h299, h300, h328, h362, hT220, hc221, hkd222, hp218]))⟩, (World.grownBy.refl _ _)⟩
       ·
        rintro f371 w372 ⟨⟨e373, e374, e375, e376⟩, hg377⟩
        have hb378 := low0 hb312 hg377
        refine Xw e376 (fun h379 => ?_) (fun h379 => ?_)
        ·
         refine Xb ?_
         refine Xh (v := .bool false) rfl rfl ?_
         refine Xa ?_
         refine Xs ?_
         refine Y6 ?_
         refine Yi ?_
         refine Yi ?_
         refine Y6 ?_
         refine Yi ?_
         refine ⟨.bool false, Yq rfl rfl, ?_, hb378⟩
         exact (T6 hT220 hc221 hkd222 (by omega) (by assumption) (by assumption) h379).elim
        ·
         have h380 := Qx h379
         have h381 := Qy h379
         refine Xy ?_
         refine Yy ?_
         refine Xv ?_
         refine X1 ?_
         refine Xc (v := .int .i64 (k : Int)) e375 rfl ?_
         refine Yx (c := (k : Int) + 1) rfl rfl (by omega) (by omega) (by omega) rfl ?_
         refine Xh (v := .int .i64 ((k : Int) + 1)) rfl rfl ?_
         refine Xa ?_
         refine Xv ?_
         have hTG382 := (TabG.low (TabG.low hTG309 hg311) hg377)
         have k383 := ((k308.grown0 hg311).grown0 hg377)
         exact ⟨4 - (k + 1), by omega, (k + 1), rfl, (by omega), hTG382, (Nat.le_trans (Nat.le_trans (Nat.le_trans (Nat.le_trans (Nat.le_trans hhs hN259.grw.size) hS262.grw.size) hg305.size) hg311.size) hg377.size), rfl, e373, e374, hb378, k383⟩
    ·
     have h384 := of_decide_eq_false h237
     refine Y5 ?_
     refine Y2 ?_
     refine Y2 ?_
     refine Z1 ?_
     refine Xv ?_
     refine Xb ?_
     refine Xh (v := .bool true) rfl rfl ?_
     refine Xa ?_
     refine Xs ?_
     refine ⟨.bool true, Yq rfl rfl, ?_, hb231⟩
     rfl
end Go.Proofs.YtfoplmgoiblkgaaDoor
end
section
namespace Go.Dw
open Go.ChangeShapes Go.WideShapes Go.ChangeAt Go.RowKit Go.Deep
def fieldIs (P : Program) (t k off ty : Nat) : Bool :=
  match P.underlying t with
  | some (.struct fs) => match fs[k]? with
    | some fl => fl.offset == off && fl.type == ty
    | none => false
  | _ => false
section
variable {H : Type} {enc : TypeId × Value → H} {P : Program} {w : World} {base : Nat} {spare : Nat → Bool} {held : Bool} {fuel : Nat} {cs : List Value} {x : DataW H × List MemPlace}
theorem Qn {t k off ty : Nat} (hf : fieldIs P t k off ty = true) (h : DataW.trod enc P w base spare held fuel t cs = some x) :
    cs.length = P.cellsOf t ∧ ∃ n y, DataW.trod enc P w base spare held n ty ((cs.drop off).take (P.cellsOf ty)) = some y := by
  unfold fieldIs at hf
  split at hf
  · rename_i fs hu
    split at hf
    · rename_i fl hfl
      simp only [Bool.and_eq_true, beq_iff_eq] at hf
      obtain ⟨rfl, rfl⟩ := hf
      obtain ⟨xs, n, _, _, hl, hxl, hat⟩ := DataW.trod_struct hu h
      have hk := (Array.getElem?_eq_some_iff.1 hfl).1
      refine ⟨hl, n, xs[k]'(by omega), ?_⟩
      rw [hat k fl hfl, List.getElem?_eq_getElem (by omega)]
    · cases hf
  · cases hf
theorem Vq {off : Nat} {v : Value} (h : (cs.drop off).take 1 = [v]) : cs[off]? = some v := by
  have := congrArg (fun l : List Value => l[0]?) h
  simpa using this
theorem Qb {t k off ty : Nat} (hf : fieldIs P t k off ty = true) (ht : P.underlying ty = some (.int .i64)) (hc : P.cellsOf ty = 1) (h : DataW.trod enc P w base spare held fuel t cs = some x) : ∃ n : Int, cs[off]? = some (.int .i64 n) ∧ (Lit.int .i64 n).wf = true := by
  obtain ⟨_, n, y, hy⟩ := Qn hf h
  rw [hc] at hy
  obtain ⟨m, hm, _, hw⟩ := DataW.trod_int ht hy
  exact ⟨m, Vq hm, hw⟩
theorem Vf {t k off ty : Nat} (hf : fieldIs P t k off ty = true) (ht : P.underlying ty = some .bool) (hc : P.cellsOf ty = 1) (h : DataW.trod enc P w base spare held fuel t cs = some x) : ∃ b : Bool, cs[off]? = some (.bool b) := by
  obtain ⟨_, n, y, hy⟩ := Qn hf h
  rw [hc] at hy
  obtain ⟨m, hm, _⟩ := DataW.trod_bool ht hy
  exact ⟨m, Vq hm⟩
structure RtTy (P : Program) (t i b : TypeId) : Prop where
  f0 : fieldIs P t 0 0 i = true
  f1 : fieldIs P t 1 1 i = true
  f2 : fieldIs P t 2 2 b = true
  f3 : fieldIs P t 3 3 b = true
  f4 : fieldIs P t 4 4 b = true
  c : P.cellsOf t = 5
  ui : P.underlying i = some (.int .i64)
  ub : P.underlying b = some .bool
  ci : P.cellsOf i = 1
  cb : P.cellsOf b = 1
theorem Sc {t i b : TypeId} (ht : RtTy P t i b) (h : DataW.trod enc P w base spare held fuel t cs = some x) : ∃ r : Rt, cs = r.cells ∧ (Lit.int .i64 r.th).wf = true ∧ (Lit.int .i64 r.ve).wf = true := by
  obtain ⟨n0, h0, w0⟩ := Qb ht.f0 ht.ui ht.ci h
  obtain ⟨n1, h1, w1⟩ := Qb ht.f1 ht.ui ht.ci h
  obtain ⟨b2, h2⟩ := Vf ht.f2 ht.ub ht.cb h
  obtain ⟨b3, h3⟩ := Vf ht.f3 ht.ub ht.cb h
  obtain ⟨b4, h4⟩ := Vf ht.f4 ht.ub ht.cb h
  have hl := (Qn ht.f0 h).1
  rw [ht.c] at hl
  refine ⟨⟨n0, n1, b2, b3, b4⟩, ?_, w0, w1⟩
  match cs, hl with
  | [c0, c1, c2, c3, c4], _ =>
    simp at h0 h1 h2 h3 h4
    simp [Rt.cells, h0, h1, h2, h3, h4]
theorem Vh {α : Type} {g : α → List Value} {ok : α → Prop} {t e : TypeId} {sz : Nat} (ht : P.underlying t = some (.slice e)) (hc : P.cellsOf e = sz) (hz : 0 < sz) (hg : Wide g sz) (hrd : ∀ n cs x, DataW.trod enc P w base spare held n e cs = some x → ∃ a, cs = g a ∧ ok a)
    (h : DataW.trod enc P w base spare held fuel t cs = some x) :
    ∃ (a : Option Addr) (xs : List α) (c : Nat), cs = [.slice a xs.length c] ∧ xs.length ≤ c ∧ c ≤ maxLen ∧ SlAt w a sz (xs.map g) ∧ (∀ y ∈ xs, ok y) ∧ (a = none → c = 0) := by
  rcases open_slice ht h with ⟨rfl, _⟩ | ⟨a, len, cap, m, n, D, Pl, rfl, _, hl, hm, hmm, _, hi⟩
  · exact ⟨none, [], 0, rfl, Nat.le_refl _, Nat.zero_le _, fun k x hk => by simp at hk, fun y hy => by simp at hy, fun _ => rfl⟩
  · have hlm : len ≤ m := by
      rw [hmm]; split <;> omega
    have hex : ∀ i : Fin len, ∃ y : α, ok y ∧ ∀ j, j < sz → w.cell? (a.add (i.val * sz + j)) = (g y)[j]? := fun i => by
      obtain ⟨cs', hcs, htr⟩ := hi i.val (by omega)
      obtain ⟨y, rfl, hy⟩ := hrd _ _ _ htr
      rw [hc] at hcs
      obtain ⟨_, _, hat⟩ := World.cells?_some hcs
      refine ⟨y, hy, fun j hj => ?_⟩
      rw [← hat j hj, add_add]
    refine ⟨some a, List.ofFn fun i : Fin len => Classical.choose (hex i), cap, by simp, by simpa using hl, hm, fun k x hk => ?_, fun y hy => ?_, fun hn => by cases hn⟩
    · rw [List.getElem?_map] at hk
      cases hy : (List.ofFn fun i : Fin len => Classical.choose (hex i))[k]? with
      | none => rw [hy] at hk; simp at hk
      | some y =>
        rw [hy] at hk
        obtain rfl : g y = x := by simpa using hk
        have hkl : k < len := by
          have := (List.getElem?_eq_some_iff.1 hy).1
          simpa using this
        have hye : Classical.choose (hex ⟨k, hkl⟩) = y := by
          rw [List.getElem?_ofFn] at hy
          simpa [hkl] using hy
        have hat := (Classical.choose_spec (hex ⟨k, hkl⟩)).2
        rw [hye] at hat
        obtain ⟨b, o, spot⟩ := a
        have hspot : spot = none := by
          obtain ⟨y0, _, hy0⟩ := hex ⟨0, by omega⟩
          have h0 := hy0 0 hz
          obtain ⟨v, hv⟩ : ∃ v, (g y0)[0]? = some v := ⟨_, List.getElem?_eq_getElem (by rw [hg]; exact hz)⟩
          rw [hv] at h0
          have := World.cell?_spot h0
          simpa [Addr.add] using this
        subst hspot
        refine ⟨b, o, rfl, fun j v hj => ?_⟩
        have hjl : j < sz := by rw [← hg y]; exact (List.getElem?_eq_some_iff.1 hj).1
        rw [← hj, ← hat j hjl]
        simp only [Addr.add]
        split
        · rename_i he
          rw [show o + k * sz + j = o by omega]
        · rw [show o + (k * sz + j) = o + k * sz + j by omega]
    · obtain ⟨i, rfl⟩ := List.mem_ofFn.1 hy
      exact (Classical.choose_spec (hex i)).1
theorem Sq {α : Type} {g : α → List Value} {ok : α → Prop} {r : Reach} {b0 : Nat} {t : TypeId} {v : Value} {d : DataW H} {p : List MemPlace} (hs : (match P.underlying t with | some (.struct _) => true | _ => false) = true)
    (hrd : ∀ n cs x, DataW.trod enc P w base spare held n t cs = some x → ∃ a, cs = g a ∧ ok a) (hv : Value.okWide P w r b0 t v) (h : DataW.Trod enc P w base spare held t v d p) : ∃ q : α, v = .agg (g q).toArray ∧ ok q := by
  cases hu : P.underlying t with
  | none => rw [hu] at hs; cases hs
  | some dd =>
    rw [hu] at hs
    cases dd with
    | struct fs =>
      obtain ⟨cs, rfl, _⟩ := okWide_struct hu hv
      obtain ⟨fuel, hf⟩ := h
      obtain ⟨q, hq, h1⟩ := hrd _ _ _ hf
      refine ⟨q, ?_, h1⟩
      have : cs.toList = g q := by simpa [Value.cells] using hq
      rw [← this]
    | _ => cases hs
theorem Ub {α : Type} {g : α → List Value} {ok : α → Prop} {r : Reach} {b0 : Nat} {t e sz : Nat} {v : Value} {d : DataW H} {p : List MemPlace} (hs : P.underlying t = some (.slice e)) (hc : P.cellsOf e = sz) (hz : 0 < sz) (hg : Wide g sz)
    (hrd : ∀ n cs x, DataW.trod enc P w base spare held n e cs = some x → ∃ a, cs = g a ∧ ok a) (hv : Value.okWide P w r b0 t v) (h : DataW.Trod enc P w base spare held t v d p) :
    ∃ (a : Option Addr) (xs : List α) (c : Nat), v = .slice a xs.length c ∧ xs.length ≤ 9223372036854775807 ∧ xs.length ≤ c ∧ SlAt w a sz (xs.map g) ∧ ∀ y ∈ xs, ok y := by
  obtain ⟨a, len, cap, rfl⟩ := okWide_slice hs hv
  obtain ⟨fuel, hf⟩ := h
  obtain ⟨a', xs, c, h1, h2, h3, h4, h5, h7⟩ := Vh hs hc hz hg hrd hf
  have h6 : Value.slice a len cap = .slice a' xs.length c := by simpa [Value.cells] using h1
  refine ⟨a', xs, c, h6, ?_, h2, h4, h5⟩
  have : maxLen = 9223372036854775807 := by decide
  omega
theorem H8 {t : TypeId} (ht : P.underlying t = some (.int .u8)) (h : DataW.trod enc P w base spare held fuel t cs = some x) : ∃ n : Int, cs = bcell n ∧ (0 ≤ n ∧ n ≤ 255) := by
  obtain ⟨n, hn, _, hw⟩ := DataW.trod_int ht h
  refine ⟨n, hn, ?_⟩
  have h2 := Bool.and_eq_true_iff.1 hw
  have h3 := of_decide_eq_true h2.1
  have h4 := of_decide_eq_true h2.2
  exact ⟨h3, h4⟩
theorem Ti {t : TypeId} (ht : P.underlying t = some (.int .i64)) (h : DataW.trod enc P w base spare held fuel t cs = some x) : ∃ n : Int, cs = icell n ∧ (Lit.int .i64 n).wf = true := by
  obtain ⟨n, hn, _, hw⟩ := DataW.trod_int ht h
  exact ⟨n, hn, hw⟩
structure LabTy (P : Program) (t i : TypeId) : Prop where
  f0 : fieldIs P t 0 0 i = true
  f1 : fieldIs P t 1 1 i = true
  c : P.cellsOf t = 2
  ui : P.underlying i = some (.int .i64)
  ci : P.cellsOf i = 1
def Lab.wf (l : Lab) : Prop := (Lit.int .i64 l.s).wf = true ∧ (Lit.int .i64 l.v).wf = true
theorem Ps {t i : TypeId} (ht : LabTy P t i) (h : DataW.trod enc P w base spare held fuel t cs = some x) : ∃ l : Lab, cs = l.cells ∧ l.wf := by
  obtain ⟨n0, h0, w0⟩ := Qb ht.f0 ht.ui ht.ci h
  obtain ⟨n1, h1, w1⟩ := Qb ht.f1 ht.ui ht.ci h
  have hl := (Qn ht.f0 h).1
  rw [ht.c] at hl
  refine ⟨⟨n0, n1⟩, ?_, w0, w1⟩
  match cs, hl with
  | [c0, c1], _ =>
    simp at h0 h1
    simp [Lab.cells, h0, h1]
structure ClTy (P : Program) (t i : TypeId) : Prop where
  f0 : fieldIs P t 0 0 i = true
  f1 : fieldIs P t 1 1 i = true
  f2 : fieldIs P t 2 2 i = true
  f3 : fieldIs P t 3 3 i = true
  f4 : fieldIs P t 4 4 i = true
  c : P.cellsOf t = 5
  ui : P.underlying i = some (.int .i64)
  ci : P.cellsOf i = 1
def Cl.wf (q : Cl) : Prop := (Lit.int .i64 q.kind).wf = true ∧ (Lit.int .i64 q.run).wf = true ∧ (Lit.int .i64 q.a).wf = true ∧ (Lit.int .i64 q.b).wf = true ∧ (Lit.int .i64 q.n).wf = true
theorem R2 {t i : TypeId} (ht : ClTy P t i) (h : DataW.trod enc P w base spare held fuel t cs = some x) : ∃ l : Cl, cs = l.cells ∧ l.wf := by
  obtain ⟨n0, h0, w0⟩ := Qb ht.f0 ht.ui ht.ci h
  obtain ⟨n1, h1, w1⟩ := Qb ht.f1 ht.ui ht.ci h
  obtain ⟨n2, h2, w2⟩ := Qb ht.f2 ht.ui ht.ci h
  obtain ⟨n3, h3, w3⟩ := Qb ht.f3 ht.ui ht.ci h
  obtain ⟨n4, h4, w4⟩ := Qb ht.f4 ht.ui ht.ci h
  have hl := (Qn ht.f0 h).1
  rw [ht.c] at hl
  refine ⟨⟨n0, n1, n2, n3, n4⟩, ?_, w0, w1, w2, w3, w4⟩
  match cs, hl with
  | [c0, c1, c2, c3, c4], _ =>
    simp at h0 h1 h2 h3 h4
    simp [Cl.cells, h0, h1, h2, h3, h4]
structure ThTy (P : Program) (t i lb rs qs re b : TypeId) : Prop where
  f0 : fieldIs P t 0 0 i = true
  f1 : fieldIs P t 1 1 lb = true
  f2 : fieldIs P t 2 3 i = true
  f3 : fieldIs P t 3 4 i = true
  f4 : fieldIs P t 4 5 rs = true
  f5 : fieldIs P t 5 6 qs = true
  f6 : fieldIs P t 6 7 i = true
  c : P.cellsOf t = 8
  ui : P.underlying i = some (.int .i64)
  ci : P.cellsOf i = 1
  cr : P.cellsOf rs = 1
  cq : P.cellsOf qs = 1
  ur : P.underlying rs = some (.slice re)
  uq : P.underlying qs = some (.slice i)
  lab : LabTy P lb i
  rt : RtTy P re i b
def MTh.inn (w : World) (m : MTh) : Prop := ThAt w m ∧ (m.t.slots.length ≤ 9223372036854775807 ∧ m.t.queue.length ≤ 9223372036854775807) ∧ m.t.lab.wf
theorem R5 {t i lb rs qs re b : TypeId} (ht : ThTy P t i lb rs qs re b) (h : DataW.trod enc P w base spare held fuel t cs = some x) : ∃ m : MTh, cs = m.cells ∧ m.inn w := by
  obtain ⟨n0, h0, w0⟩ := Qb ht.f0 ht.ui ht.ci h
  obtain ⟨_, y1, z1, hz1⟩ := Qn ht.f1 h
  rw [ht.lab.c] at hz1
  obtain ⟨l, hl1, hl2⟩ := Ps ht.lab hz1
  obtain ⟨n2, h2, w2⟩ := Qb ht.f2 ht.ui ht.ci h
  obtain ⟨n3, h3, w3⟩ := Qb ht.f3 ht.ui ht.ci h
  obtain ⟨_, y4, z4, hz4⟩ := Qn ht.f4 h
  rw [ht.cr] at hz4
  obtain ⟨sa, ss, sc, hs1, hs2, hs3, hs4, _, hs5⟩ := Vh (g := Rt.cells) (ok := fun q => (Lit.int .i64 q.th).wf = true ∧ (Lit.int .i64 q.ve).wf = true) ht.ur ht.rt.c (by omega) Zw (fun n cs x hx => Sc ht.rt hx) hz4
  obtain ⟨_, y5, z5, hz5⟩ := Qn ht.f5 h
  rw [ht.cq] at hz5
  obtain ⟨qa, qs', qc, hq1, hq2, hq3, hq4, _, hq5⟩ := Vh (g := icell) (ok := fun q => (Lit.int .i64 q).wf = true) ht.uq ht.ci (by omega) Ys (fun n cs x hx => Ti ht.ui hx) hz5
  obtain ⟨n6, h6, w6⟩ := Qb ht.f6 ht.ui ht.ci h
  have hl := (Qn ht.f0 h).1
  rw [ht.c] at hl
  have hmx : maxLen = 9223372036854775807 := by decide
  refine ⟨⟨⟨n0, l, n2, n3, ss, qs', n6⟩, sa, sc, qa, qc⟩, ?_, ⟨hs4, hq4, hs5, hq5⟩, ⟨by dsimp only; omega, by dsimp only; omega⟩, hl2⟩
  match cs, hl with
  | [c0, c1, c2, c3, c4, c5, c6, c7], _ =>
    simp at h0 h2 h3 h6 hs1 hq1
    simp [Lab.cells] at hl1
    simp [MTh.cells, h0, h2, h3, h6, hs1, hq1, hl1]
theorem K9 (hl : laidOutB P = true) {W W' : World} (hb : Below W.heap.size W W') : ∀ (ts : List TypeId) (vs : List Value) (ds : List (DataW H)) (ps : List MemPlace), ts.all (fun t => P.readableRec t && decide (t < P.types.size)) = true →
    DataW.TrodAll enc P W 0 (fun _ => true) true ts vs ds ps → (∀ y ∈ ps, y.block < W.heap.size) → DataW.TrodAll enc P W' 0 (fun b => decide (b < W.heap.size)) true ts vs ds ps
  | [], _, _, _, _, h, _ => by
    obtain ⟨rfl, rfl, rfl⟩ := trodAll_nil h
    exact rfl
  | t :: ts, _, _, _, ht, h, hlt => by
    obtain ⟨v, vs, d, ds, p, q, rfl, rfl, rfl, h1, h2⟩ := trodAll_cons h
    simp only [List.all_cons, Bool.and_eq_true, decide_eq_true_eq] at ht
    exact ⟨p, q, Below.trod hl ht.1.1 ht.1.2 h1 hb fun y hy => hlt y (List.mem_append_left _ hy), K9 hl hb ts vs ds q ht.2 h2 fun y hy => hlt y (List.mem_append_right _ hy), rfl⟩
theorem K6 {f : Func} {s : ChangeSpec} {apart handsOn : Bool} {W W' : World} {args : Array Value} {ds gs : List (DataW H)} {before pa : List MemPlace} {tb : TypeId} (hl : laidOutB P = true)
    (hr : f.params.toList.all (fun t => P.readableRec t && decide (t < P.types.size)) = true) (hW : DataW.Whole enc P f.params.toList s.vars apart W args.toList ds gs before)
    (hA : DataW.TrodAll enc P W 0 (fun _ => true) true f.params.toList args.toList ds pa) (hlt : ∀ y ∈ pa, y.block < W.heap.size) (hs : s.fn H (ds ++ gs) = { results := [.lit (.bool true)], args := ds }) (hv : s.vars = [])
    (hres : f.resultTypes = #[tb]) (htb : P.underlying tb = some .bool) (hb : Below W.heap.size W W') : s.post enc P f apart true handsOn false W args (.bool true) W' := by
  refine ⟨ds, gs, before, [], pa, [], hW, ?_, ?_, ?_, hb.frame _, fun h => by cases h⟩
  · rw [hs, hres]
    exact trodAll_mk1 (shut_bool htb _)
  · rw [hs]
    exact K9 hl hb _ _ _ _ hr hA hlt
  · rw [hs, hv]
    rfl
end
end Go.Dw
end
section
namespace Go.Proofs.YtfoplmgoiblkgaaDoor
open Go.ChangeShapes Go.WideShapes Go.RowKit
def laidE : List (String × DataW Unit) := [("errors.errorType", Rows.laid_errors_errorType)]
theorem Ma : Tryd.prog.globalNamed "errors.errorType" = some 0 := by kernel_rfl
theorem Mh : (Tryd.prog.cutTypes.find? (·.1 == "internal/reflectlite.rtype")).map (·.2) = some 122 := by kernel_rfl
theorem Tu : ((List.range 180).filter fun t => Tryd.prog.rowNamed t [101, 114, 114, 111, 114]) = [61] := by kernel_rfl
theorem Si : Tryd.prog.types.size = 180 := by kernel_rfl
theorem Jy {W : World} (h : laidMetH Tryd.prog laidE W) : ErrT W := by
  have h' : laidMet Tryd.prog [] W ∧ handlesMet Tryd.prog laidE W := h
  obtain ⟨name, u, ty, e1, e2, e3, e4, e5⟩ := h'.2 _ (List.mem_singleton.2 rfl)
  have en : name = [101, 114, 114, 111, 114] := (Option.some.inj e1).symm
  subst en
  obtain rfl := Option.some.inj (Mh.symm.trans e2)
  have hm : ty ∈ (List.range 180).filter fun t => Tryd.prog.rowNamed t [101, 114, 114, 111, 114] := List.mem_filter.2 ⟨List.mem_range.2 (by rw [← Si]; exact e3), e4⟩
  rw [Tu] at hm
  obtain rfl := List.mem_singleton.1 hm
  have hh : typeHandle Tryd.prog 61 = .pointer (some ⟨1, 61, none⟩) := by kernel_rfl
  rw [hh] at e5
  simpa [ErrT] using World.var?_cell Ma e5 0
noncomputable def laidWorld (os : Os) : World :=
  let w0 := World.holding Tryd.prog os ⟨#[], #[], []⟩
  { w0 with heap := w0.heap.modify 0 fun
      | .cells _ t frozen => .cells #[.iface 122 (.agg #[.pointer (some ⟨1, 61, none⟩)])] t frozen
      | o => o }
theorem Ji (os : Os) (args : Array Value) : laidMetH Tryd.prog laidE ((laidWorld os).forCall (fun _ _ => 0) ⟨#[], args, []⟩).memory :=
  laidMetH_of_parts (laidMet_nil _ _) (by kernel_rfl)
end Go.Proofs.YtfoplmgoiblkgaaDoor
end
