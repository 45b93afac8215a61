/- Laws and walks: my templates, and what a program of mine (gen.py) printed out of the functions; only what the row reaches. -/
import Derived.Test.YtldnkinaedgnpaaVA5
section
namespace Go.Dw.J
open Go.RowKit Go.Dw Go.Proofs
set_option linter.unusedSectionVars false
set_option maxRecDepth 100000
set_option maxHeartbeats 4000000
set_option linter.unusedSimpArgs false
set_option linter.unusedVariables false
theorem law_FnViewOf [Comp] [ViewRule] (bs : List Int) (a : Option Addr) (c : Nat) (w : World) (hs0 : SlAt w a 1 (bs.map bcell)) (hb : ∀ b ∈ bs, 0 ≤ b ∧ b ≤ 255) (hn : bs.length ≤ 9223372036854775807) (hc : bs.length ≤ c) (hKB : ViewRule.base ≤ w.heap.size) : Wpf Try.prog 109 (endQ Try.prog Try.f3 (fun v w' => v = .bool true ∧ w.grownBy w' none)) (Try.f3.body.getD .skip) (f0 #[.slice a bs.length c]) w := by
 have hb0 := World.grownBy.refl w none
 have hs := SlAt.lt R9 (by omega) hs0
 refine Xa ?_
 refine wpo_assign (v := .bool false) rfl rfl ?_
 refine wpo_nil ?_
 refine Xk ?_
 refine Xa ?_
 refine wpo_move (v := .slice a bs.length c) rfl rfl ?_
 refine wpo_len (by kernel_rfl) rfl rfl ?_
 refine wpo_gtr (q := decide (1048576 < (bs.length : Int))) rfl rfl rfl rfl ?_
 refine wpo_nil ?_
 refine Xt rfl (fun h101 => ?_) (fun h101 => ?_)
 ·
  have h102 := of_decide_eq_true h101
  refine Xa ?_
  refine wpo_assign (v := .bool true) rfl rfl ?_
  refine wpo_nil ?_
  refine Xl ?_
  refine Yb ?_
  refine ⟨.bool true, res1 rfl rfl, ?_, hb0⟩
  rfl
 ·
  have h103 := of_decide_eq_false h101
  refine Xm ?_
  refine Xs ?_
  refine Xa ?_
  refine wpo_move (v := .slice a bs.length c) rfl rfl ?_
  refine Xi (vs := [.slice a bs.length c]) Fz (Xb rfl Xh) rfl (Lq bs a c _ (SlAt.low hs0 hb0) hb (by omega) (by omega)) ?_
  rintro _ w111 ⟨B104, cap105, ms106, l112, rfl, hTG107, hTS108, hTn109, hd113, hg110⟩
  have hb114 := low0 hb0 hg110
  have hTl115 := hTS108.len
  refine wpo_move (v := .tuple #[.slice (some ⟨B104, 0, none⟩) ms106.length cap105, .agg #[.int .i64 l112.s, .int .i64 l112.v]]) rfl rfl ?_
  refine wpo_extract (v := .slice (some ⟨B104, 0, none⟩) ms106.length cap105) rfl rfl rfl ?_
  refine wpo_extract (v := .agg #[.int .i64 l112.s, .int .i64 l112.v]) rfl rfl rfl ?_
  refine wpo_alloc (cs := #[.int .i64 0, .int .i64 0]) Sq rfl rfl ?_
  intro B116 w117 hN118
  have hlB116 := X0 hN118 hb114
  have hb119 := low0 hb114 hN118.grw
  refine wpo_assign (v := .slice (some ⟨B104, 0, none⟩) ms106.length cap105) rfl rfl ?_
  refine wpo_storen (vs := [.int .i64 l112.s, .int .i64 l112.v]) (cs' := #[.int .i64 l112.s, .int .i64 l112.v]) Yw rfl rfl rfl (by simp [Value.oneCell']) hN118.blk (Nat.le_of_ble_eq_true rfl) rfl ?_
  intro w120 hS121
  have hb122 := low1 hb119 hS121.grw (by omega)
  refine wpo_nil ?_
  refine Xa ?_
  refine wpo_move (v := .slice (some ⟨B104, 0, none⟩) ms106.length cap105) rfl rfl ?_
  refine wpo_loadn (vs := [.int .i64 l112.s, .int .i64 l112.v]) Yw rfl rfl (hS121.blk.rangeL 0 2 rfl) rfl ?_
  refine Xi (vs := [.slice (some ⟨B104, 0, none⟩) ms106.length cap105, .agg #[.int .i64 l112.s, .int .i64 l112.v]]) F1 (Xb rfl (Xb rfl Xh)) rfl (ViewRule.rule _ ms106 _ _ l112 (Nat.le_trans hKB hb122.size) (TabG.at (TabG.low hTG107 (low1 hN118.grw hS121.grw (Nat.le_trans ((World.grownBy.refl _ none)).size hN118.ge)))) hTl115 (by omega)) ?_
  rintro _ w130 ⟨us123, a124, cap125, rfl, he126, hT127, hnc128, hg129⟩
  have hb133 := low0 hb122 hg129
  have hTl131 := Vl he126 hTl115
  have hll132 := U3 he126
  refine wpo_assign (v := .slice a124 us123.length cap125) rfl rfl ?_
  refine wpo_nil ?_
  refine Xk ?_
  refine Xu (fun f' w' => (f' 2 = .bool false ∧ f' 3 = .slice (some ⟨B104, 0, none⟩) ms106.length cap105 ∧ f' 4 = .pointer (some ⟨B116, 0, none⟩) ∧ f' 5 = .slice a124 us123.length cap125 ∧ f' 35 = .bool ((false || (!tableOk (tabT ms106))) || (!labelOk l112))) ∧ w130.grownBy w' none) ?_ ?_
  ·
   refine wpo_move (v := .slice a124 us123.length cap125) rfl rfl ?_
   refine wpo_move (v := .slice (some ⟨B104, 0, none⟩) ms106.length cap105) rfl rfl ?_
   have k174 := (hS121.blk.grown0 hg129)
   refine wpo_loadn (vs := [.int .i64 l112.s, .int .i64 l112.v]) Yw rfl rfl (k174.rangeL 0 2 rfl) rfl ?_
   refine Xi (vs := [.slice (some ⟨B104, 0, none⟩) ms106.length cap105, .agg #[.int .i64 l112.s, .int .i64 l112.v]]) Dx (Xb rfl (Xb rfl Xh)) rfl (Li l112 _ ms106 _ _ (TabG.at (TabG.low hTG107 (low0 (low1 hN118.grw hS121.grw (Nat.le_trans ((World.grownBy.refl _ none)).size hN118.ge)) hg129))) hTl115 (by omega)) ?_
   rintro _ w182 ⟨us175, a176, cap177, rfl, he178, hT179, hnc180, hg181⟩
   have hb185 := low0 hb133 hg181
   have hTl183 := Vl he178 hTl115
   have hll184 := U3 he178
   refine Xi (vs := [.slice a124 us123.length cap125, .slice a176 us175.length cap177]) Dv (Xb rfl (Xb rfl Xh)) rfl (H4 _ us123 us175 _ _ _ _ (TabAt.low hT127 hg181) hT179 hTl131 hTl183 (by omega) (by omega)) ?_
   rintro _ w186 ⟨rfl, hg187⟩
   have hb188 := low0 hb185 hg187
   refine wpo_not (b' := false) (congrArg Value.bool (decide_eq_true (he126.trans he178.symm))) rfl rfl ?_
   refine wpo_move (v := .bool false) rfl rfl ?_
   refine Xc rfl rfl rfl rfl ?_
   refine wpo_move (v := .slice (some ⟨B104, 0, none⟩) ms106.length cap105) rfl rfl ?_
   refine Xc rfl rfl rfl rfl ?_
   refine Xi (vs := [.slice (some ⟨B104, 0, none⟩) ms106.length cap105]) Dy (Xb rfl Xh) rfl (Uz  _ ms106 _ _ (TabG.at (TabG.low hTG107 (low0 (low0 (low0 (low1 hN118.grw hS121.grw (Nat.le_trans ((World.grownBy.refl _ none)).size hN118.ge)) hg129) hg181) hg187))) hTl115 (by omega)) ?_
   rintro _ w189 ⟨rfl, hg190⟩
   have hb191 := low0 hb188 hg190
   refine Xc rfl rfl rfl rfl ?_
   refine wpo_not (b' := !tableOk (tabT ms106)) rfl rfl rfl ?_
   refine wpo_pickf (v := .bool (!tableOk (tabT ms106))) rfl rfl rfl rfl ?_
   refine wpo_move (v := .bool (!tableOk (tabT ms106))) rfl rfl ?_
   rcases X3 (!tableOk (tabT ms106)) with h192 | h192
   ·
    have h193 := Je h192
    iterate 3 refine Xf rfl rfl rfl h192 rfl ?_
    refine wpo_pickt (v := .bool true) rfl h192 rfl rfl ?_
    exact wpo_nil ⟨⟨rfl, rfl, rfl, rfl, (congrArg Value.bool (by first | (simp only [h101, h192, h193, b0, b1, b2, b3, b4, b5, b6, b7, b8, b9]; done) | simp [h101, h192, h193]))⟩, (Xe (Xe hg181 hg187) hg190)⟩
   ·
    have h194 := Qo h192
    refine Xc rfl rfl rfl h192 ?_
    have k195 := (((k174.grown0 hg181).grown0 hg187).grown0 hg190)
    refine wpo_loadn (vs := [.int .i64 l112.s, .int .i64 l112.v]) Yw rfl rfl (k195.rangeL 0 2 rfl) rfl ?_
    refine Xc rfl rfl rfl h192 ?_
    refine Xi (vs := [.agg #[.int .i64 l112.s, .int .i64 l112.v]]) Dz (Xb rfl Xh) rfl (Uy l112 _) ?_
    rintro _ w196 ⟨rfl, hg197⟩
    have hb198 := low0 hb191 hg197
    refine Xc rfl rfl rfl h192 ?_
    refine wpo_not (b' := !labelOk l112) rfl rfl rfl ?_
    refine wpo_pickf (v := .bool (!labelOk l112)) rfl h192 rfl rfl ?_
    exact wpo_nil ⟨⟨rfl, rfl, rfl, rfl, (congrArg Value.bool (by first | (simp only [h101, h192, h194, b0, b1, b2, b3, b4, b5, b6, b7, b8, b9]; done) | simp [h101, h192, h194]))⟩, (Xe (Xe (Xe hg181 hg187) hg190) hg197)⟩
  ·
   rintro f199 w200 ⟨⟨e201, e202, e203, e204, e205⟩, hg206⟩
   have hb207 := low0 hb133 hg206
   refine Xt e205 (fun h208 => ?_) (fun h208 => ?_)
   ·
    refine Xa ?_
    refine wpo_move (v := .slice a124 us123.length cap125) e204 rfl ?_
    refine wpo_move (v := .slice (some ⟨B104, 0, none⟩) ms106.length cap105) e202 rfl ?_
    have k209 := ((hS121.blk.grown0 hg129).grown0 hg206)
    refine wpo_loadn (vs := [.int .i64 l112.s, .int .i64 l112.v]) Yw e203 rfl (k209.rangeL 0 2 rfl) rfl ?_
    refine Xi (vs := [.slice (some ⟨B104, 0, none⟩) ms106.length cap105, .agg #[.int .i64 l112.s, .int .i64 l112.v]]) Dx (Xb rfl (Xb rfl Xh)) rfl (Li l112 _ ms106 _ _ (TabG.at (TabG.low hTG107 (low0 (low0 (low1 hN118.grw hS121.grw (Nat.le_trans ((World.grownBy.refl _ none)).size hN118.ge)) hg129) hg206))) hTl115 (by omega)) ?_
    rintro _ w217 ⟨us210, a211, cap212, rfl, he213, hT214, hnc215, hg216⟩
    have hb220 := low0 hb207 hg216
    have hTl218 := Vl he213 hTl115
    have hll219 := U3 he213
    refine Xi (vs := [.slice a124 us123.length cap125, .slice a211 us210.length cap212]) Dv (Xb rfl (Xb rfl Xh)) rfl (H4 _ us123 us210 _ _ _ _ (TabAt.low hT127 (Xe hg206 hg216)) hT214 hTl131 hTl218 (by omega) (by omega)) ?_
    rintro _ w221 ⟨rfl, hg222⟩
    have hb223 := low0 hb220 hg222
    refine wpo_assign (v := .bool true) (congrArg Value.bool (decide_eq_true (he126.trans he213.symm))) rfl ?_
    refine wpo_nil ?_
    refine Xl ?_
    refine Yb ?_
    refine ⟨.bool true, res1 rfl rfl, ?_, hb223⟩
    rfl
   ·
    have h224 := J6 h208
    have h225 := J6 h224
    have h226 := J7 h224
    have h227 := Qo h226
    have h228 := J7 h208
    have h229 := Qo h228
    refine Xm ?_
    refine Xs ?_
    refine Xk ?_
    refine Xa ?_
    refine wpo_assign (v := .int .i64 0) rfl rfl ?_
    refine wpo_nil ?_
    refine Xv ?_
    have k231 := ((hS121.blk.grown0 hg129).grown0 hg206)
    refine Yh (fun mm f' w' => ∃ (i : Nat), mm = ms106.length - i ∧ i ≤ ms106.length ∧ w200.grownBy w' none ∧ f' 6 = .int .i64 (i : Int) ∧ f' 3 = .slice (some ⟨B104, 0, none⟩) ms106.length cap105 ∧ f' 4 = .pointer (some ⟨B116, 0, none⟩) ∧ f' 5 = .slice a124 us123.length cap125 ∧ w.grownBy w' none ∧ Blk w' B116 25 #[.int .i64 l112.s, .int .i64 l112.v]) (ms106.length - 0) ⟨0, rfl, (Nat.zero_le _), (World.grownBy.refl _ none), rfl, e202, e203, e204, hb207, k231⟩ ?_
    rintro mm f232 w233 ⟨i, hm235, hi, hgl230, e236, e237, e238, e239, hb234, k240⟩
    have heq := Hz he126 h227 h229
    refine Xk ?_
    refine Xa ?_
    refine wpo_move (v := .int .i64 (i : Int)) e236 rfl ?_
    refine wpo_move (v := .slice (some ⟨B104, 0, none⟩) ms106.length cap105) e237 rfl ?_
    refine wpo_len (by kernel_rfl) rfl rfl ?_
    refine wpo_lss (q := decide ((i : Int) < (ms106.length : Int))) rfl rfl rfl rfl ?_
    refine wpo_nil ?_
    refine Xt rfl (fun h241 => ?_) (fun h241 => ?_)
    ·
     have h242 := of_decide_eq_true h241
     refine Xm ?_
     refine Xs ?_
     refine Xk ?_
     refine Xv ?_
     refine Xk ?_
     obtain ⟨b295, q296, o297, ha298, ho299, hr300⟩ := SlAt.at (TabG.at (TabG.low hTG107 (low0 (low0 (low0 (low1 hN118.grw hS121.grw (Nat.le_trans ((World.grownBy.refl _ none)).size hN118.ge)) hg129) hg206) hgl230))).1 (Ym (Xz (show i < ms106.length by omega)))
     have hle301 := TabLen.at hTl115 (Xz (show i < ms106.length by omega))
     refine J1 (m := 21) [[], [], [0, 1], [0, 1, 2], [0, 1, 2, 3], [], [], [5, 6], [5, 6, 7], [5, 6, 7, 8], [], [], [10, 11], [10, 11, 12], [10, 11, 12, 13], [0, 1, 2, 3, 4, 5, 6, 7, 8, 9, 10, 11, 12, 13, 14], [0, 1, 2, 3, 4, 5, 6, 7, 8, 9, 10, 11, 12, 13, 14, 15], [0, 1, 2, 3, 4, 5, 6, 7, 8, 9, 10, 11, 12, 13, 14, 15, 16], [0, 1, 2, 3, 4, 5, 6, 7, 8, 9, 10, 11, 12, 13, 14, 15, 16], [], [0, 1, 2, 3, 4, 5, 6, 7, 8, 9, 10, 11, 12, 13, 14, 15, 16, 17, 19], [0, 1, 2, 3, 4, 5, 6, 7, 8, 9, 10, 11, 12, 13, 14, 15, 16, 17, 18, 19, 20]] (fun S F w' => ∃ (q315 : MTh) (bb316 : Bool) (B323 : Nat), w233.grownBy w' none ∧ F 3 = .slice (some ⟨B104, 0, none⟩) ms106.length cap105 ∧ F 4 = .pointer (some ⟨B116, 0, none⟩) ∧ F 5 = .slice a124 us123.length cap125 ∧ F 6 = .int .i64 (i : Int) ∧ (S 15 = true → F 63 = .tuple #[.agg #[.int .i64 q315.t.kind, .int .i64 q315.t.lab.s, .int .i64 q315.t.lab.v, .int .i64 q315.t.ve, .int .i64 q315.t.num, .slice q315.sa q315.t.slots.length q315.sc, .slice q315.qa q315.t.queue.length q315.qc, .int .i64 q315.t.to], .bool bb316] ∧ q315.t = thingNew ((mAt ms106 i).t.kind) ((mAt ms106 i).t.lab) ((mAt ms106 i).t.to) ∧ (q315.t.slots.length ≤ 1048576 ∧ q315.t.queue.length ≤ 1048576) ∧ RowO 74 3 0 w' q315) ∧ (S 16 = true → F 47 = .tuple #[.agg #[.int .i64 q315.t.kind, .int .i64 q315.t.lab.s, .int .i64 q315.t.lab.v, .int .i64 q315.t.ve, .int .i64 q315.t.num, .slice q315.sa q315.t.slots.length q315.sc, .slice q315.qa q315.t.queue.length q315.qc, .int .i64 q315.t.to], .bool bb316]) ∧ (S 17 = true → F 64 = .agg #[.int .i64 q315.t.kind, .int .i64 q315.t.lab.s, .int .i64 q315.t.lab.v, .int .i64 q315.t.ve, .int .i64 q315.t.num, .slice q315.sa q315.t.slots.length q315.sc, .slice q315.qa q315.t.queue.length q315.qc, .int .i64 q315.t.to]) ∧ (S 18 = true → F 65 = .bool bb316) ∧ (S 19 = true → F 7 = .pointer (some ⟨B323, 0, none⟩) ∧ w.heap.size ≤ B323 ∧ (S 20 = false → Blk w' B323 35 #[.int .i64 0, .int .i64 0, .int .i64 0, .int .i64 0, .int .i64 0, .slice none 0 0, .slice none 0 0, .int .i64 0]) ∧ B116 < B323 ∧ w233.heap.size ≤ B323) ∧ (S 20 = true → Blk w' B323 35 #[.int .i64 q315.t.kind, .int .i64 q315.t.lab.s, .int .i64 q315.t.lab.v, .int .i64 q315.t.ve, .int .i64 q315.t.num, .slice q315.sa q315.t.slots.length q315.sc, .slice q315.qa q315.t.queue.length q315.qc, .int .i64 q315.t.to]) ∧ Vals S F [(0, 48, .slice (some ⟨B104, 0, none⟩) ms106.length cap105), (1, 49, .int .i64 (i : Int)), (2, 50, .pointer (some ⟨b295, o297, none⟩)), (3, 51, .pointer (some ⟨b295, o297, none⟩)), (4, 52, .int .i64 ((mAt ms106 i).t.kind)), (5, 53, .slice (some ⟨B104, 0, none⟩) ms106.length cap105), (6, 54, .int .i64 (i : Int)), (7, 55, .pointer (some ⟨b295, o297, none⟩)), (8, 56, .pointer (some ⟨b295, o297 + 1, none⟩)), (9, 57, .agg #[.int .i64 ((mAt ms106 i).t.lab.s), .int .i64 ((mAt ms106 i).t.lab.v)]), (10, 58, .slice (some ⟨B104, 0, none⟩) ms106.length cap105), (11, 59, .int .i64 (i : Int)), (12, 60, .pointer (some ⟨b295, o297, none⟩)), (13, 61, .pointer (some ⟨b295, o297 + 7, none⟩)), (14, 62, .int .i64 ((mAt ms106 i).t.to))]) Q5 (by kernel_rfl) ⟨MTh.zero, false, 0, X7 _, e237, e238, e239, e236, X8, X8, X8, X8, X8, X8, U2 _⟩ ?_ ?_
     ·
      refine Xq (fun S F w331 hS hbef hcl hI => ?_) ?_
      ·
       obtain ⟨q315, bb316, B323, hi332, e333, e334, e335, e336, c_15, c_16, c_17, c_18, c_19, c_20, hvs⟩ := hI
       have hb337 := low0 hb234 hi332
       refine wpo_move (v := .slice (some ⟨B104, 0, none⟩) ms106.length cap105) e333 rfl ?_
       exact wpo_nil ⟨q315, bb316, B323, hi332, e333, e334, e335, e336, fun h => Xj 15 hS hcl rfl h, fun h => Xj 16 hS hcl rfl h, fun h => Xj 17 hS hcl rfl h, fun h => Xj 18 hS hcl rfl h, c_19, fun h => Xj 20 hS hcl rfl h, Vals.up 0 hvs rfl rfl rfl⟩
      refine Xq (fun S F w338 hS hbef hcl hI => ?_) ?_
      ·
       obtain ⟨q315, bb316, B323, hi339, e340, e341, e342, e343, c_15, c_16, c_17, c_18, c_19, c_20, hvs⟩ := hI
       have hb344 := low0 hb234 hi339
       refine wpo_move (v := .int .i64 (i : Int)) e343 rfl ?_
       exact wpo_nil ⟨q315, bb316, B323, hi339, e340, e341, e342, e343, fun h => Xj 15 hS hcl rfl h, fun h => Xj 16 hS hcl rfl h, fun h => Xj 17 hS hcl rfl h, fun h => Xj 18 hS hcl rfl h, c_19, fun h => Xj 20 hS hcl rfl h, Vals.up 1 hvs rfl rfl rfl⟩
      refine Xq (fun S F w345 hS hbef hcl hI => ?_) ?_
      ·
       obtain ⟨q315, bb316, B323, hi346, e347, e348, e349, e350, c_15, c_16, c_17, c_18, c_19, c_20, hvs⟩ := hI
       have hb351 := low0 hb234 hi346
       have ev352 := Vals.at 0 hvs rfl (Xg 0 hbef rfl)
       have ev353 := Vals.at 1 hvs rfl (Xg 1 hbef rfl)
       refine Xy Qe ev352 ev353 ha298 ho299 (by omega) (by omega) rfl ?_
       exact wpo_nil ⟨q315, bb316, B323, hi346, e347, e348, e349, e350, fun h => Xj 15 hS hcl rfl h, fun h => Xj 16 hS hcl rfl h, fun h => Xj 17 hS hcl rfl h, fun h => Xj 18 hS hcl rfl h, c_19, fun h => Xj 20 hS hcl rfl h, Vals.up 2 hvs rfl rfl rfl⟩
      refine Xq (fun S F w354 hS hbef hcl hI => ?_) ?_
      ·
       obtain ⟨q315, bb316, B323, hi355, e356, e357, e358, e359, c_15, c_16, c_17, c_18, c_19, c_20, hvs⟩ := hI
       have hb360 := low0 hb234 hi355
       have ev361 := Vals.at 0 hvs rfl (Xg 0 hbef rfl)
       have ev362 := Vals.at 1 hvs rfl (Xg 1 hbef rfl)
       have ev363 := Vals.at 2 hvs rfl (Xg 2 hbef rfl)
       refine wpo_fieldAddr (o' := o297) Ya ev363 rfl rfl ?_
       exact wpo_nil ⟨q315, bb316, B323, hi355, e356, e357, e358, e359, fun h => Xj 15 hS hcl rfl h, fun h => Xj 16 hS hcl rfl h, fun h => Xj 17 hS hcl rfl h, fun h => Xj 18 hS hcl rfl h, c_19, fun h => Xj 20 hS hcl rfl h, Vals.up 3 hvs rfl rfl rfl⟩
      refine Xq (fun S F w364 hS hbef hcl hI => ?_) ?_
      ·
       obtain ⟨q315, bb316, B323, hi365, e366, e367, e368, e369, c_15, c_16, c_17, c_18, c_19, c_20, hvs⟩ := hI
       have hb370 := low0 hb234 hi365
       have ev371 := Vals.at 0 hvs rfl (Xg 0 hbef rfl)
       have ev372 := Vals.at 1 hvs rfl (Xg 1 hbef rfl)
       have ev373 := Vals.at 2 hvs rfl (Xg 2 hbef rfl)
       have ev374 := Vals.at 3 hvs rfl (Xg 3 hbef rfl)
       refine wpo_load1 (v := .int .i64 ((mAt ms106 i).t.kind)) X2 ev374 ((Yd hr300 hi365) 0 _ rfl) rfl ?_
       exact wpo_nil ⟨q315, bb316, B323, hi365, e366, e367, e368, e369, fun h => Xj 15 hS hcl rfl h, fun h => Xj 16 hS hcl rfl h, fun h => Xj 17 hS hcl rfl h, fun h => Xj 18 hS hcl rfl h, c_19, fun h => Xj 20 hS hcl rfl h, Vals.up 4 hvs rfl rfl rfl⟩
      refine Xq (fun S F w375 hS hbef hcl hI => ?_) ?_
      ·
       obtain ⟨q315, bb316, B323, hi376, e377, e378, e379, e380, c_15, c_16, c_17, c_18, c_19, c_20, hvs⟩ := hI
       have hb381 := low0 hb234 hi376
       refine wpo_move (v := .slice (some ⟨B104, 0, none⟩) ms106.length cap105) e377 rfl ?_
       exact wpo_nil ⟨q315, bb316, B323, hi376, e377, e378, e379, e380, fun h => Xj 15 hS hcl rfl h, fun h => Xj 16 hS hcl rfl h, fun h => Xj 17 hS hcl rfl h, fun h => Xj 18 hS hcl rfl h, c_19, fun h => Xj 20 hS hcl rfl h, Vals.up 5 hvs rfl rfl rfl⟩
      refine Xq (fun S F w382 hS hbef hcl hI => ?_) ?_
      ·
       obtain ⟨q315, bb316, B323, hi383, e384, e385, e386, e387, c_15, c_16, c_17, c_18, c_19, c_20, hvs⟩ := hI
       have hb388 := low0 hb234 hi383
       refine wpo_move (v := .int .i64 (i : Int)) e387 rfl ?_
       exact wpo_nil ⟨q315, bb316, B323, hi383, e384, e385, e386, e387, fun h => Xj 15 hS hcl rfl h, fun h => Xj 16 hS hcl rfl h, fun h => Xj 17 hS hcl rfl h, fun h => Xj 18 hS hcl rfl h, c_19, fun h => Xj 20 hS hcl rfl h, Vals.up 6 hvs rfl rfl rfl⟩
      refine Xq (fun S F w389 hS hbef hcl hI => ?_) ?_
      ·
       obtain ⟨q315, bb316, B323, hi390, e391, e392, e393, e394, c_15, c_16, c_17, c_18, c_19, c_20, hvs⟩ := hI
       have hb395 := low0 hb234 hi390
       have ev396 := Vals.at 5 hvs rfl (Xg 5 hbef rfl)
       have ev397 := Vals.at 6 hvs rfl (Xg 6 hbef rfl)
       refine Xy Qe ev396 ev397 ha298 ho299 (by omega) (by omega) rfl ?_
       exact wpo_nil ⟨q315, bb316, B323, hi390, e391, e392, e393, e394, fun h => Xj 15 hS hcl rfl h, fun h => Xj 16 hS hcl rfl h, fun h => Xj 17 hS hcl rfl h, fun h => Xj 18 hS hcl rfl h, c_19, fun h => Xj 20 hS hcl rfl h, Vals.up 7 hvs rfl rfl rfl⟩
      refine Xq (fun S F w398 hS hbef hcl hI => ?_) ?_
      ·
       obtain ⟨q315, bb316, B323, hi399, e400, e401, e402, e403, c_15, c_16, c_17, c_18, c_19, c_20, hvs⟩ := hI
       have hb404 := low0 hb234 hi399
       have ev405 := Vals.at 5 hvs rfl (Xg 5 hbef rfl)
       have ev406 := Vals.at 6 hvs rfl (Xg 6 hbef rfl)
       have ev407 := Vals.at 7 hvs rfl (Xg 7 hbef rfl)
       refine wpo_fieldAddr (o' := o297 + 1) Jm ev407 rfl rfl ?_
       exact wpo_nil ⟨q315, bb316, B323, hi399, e400, e401, e402, e403, fun h => Xj 15 hS hcl rfl h, fun h => Xj 16 hS hcl rfl h, fun h => Xj 17 hS hcl rfl h, fun h => Xj 18 hS hcl rfl h, c_19, fun h => Xj 20 hS hcl rfl h, Vals.up 8 hvs rfl rfl rfl⟩
      refine Xq (fun S F w408 hS hbef hcl hI => ?_) ?_
      ·
       obtain ⟨q315, bb316, B323, hi409, e410, e411, e412, e413, c_15, c_16, c_17, c_18, c_19, c_20, hvs⟩ := hI
       have hb414 := low0 hb234 hi409
       have ev415 := Vals.at 5 hvs rfl (Xg 5 hbef rfl)
       have ev416 := Vals.at 6 hvs rfl (Xg 6 hbef rfl)
       have ev417 := Vals.at 7 hvs rfl (Xg 7 hbef rfl)
       have ev418 := Vals.at 8 hvs rfl (Xg 8 hbef rfl)
       refine wpo_loadn (vs := [.int .i64 ((mAt ms106 i).t.lab.s), .int .i64 ((mAt ms106 i).t.lab.v)]) Yw ev418 rfl (Yn (Yd hr300 hi409) 1 2 rfl) rfl ?_
       exact wpo_nil ⟨q315, bb316, B323, hi409, e410, e411, e412, e413, fun h => Xj 15 hS hcl rfl h, fun h => Xj 16 hS hcl rfl h, fun h => Xj 17 hS hcl rfl h, fun h => Xj 18 hS hcl rfl h, c_19, fun h => Xj 20 hS hcl rfl h, Vals.up 9 hvs rfl rfl rfl⟩
      refine Xq (fun S F w419 hS hbef hcl hI => ?_) ?_
      ·
       obtain ⟨q315, bb316, B323, hi420, e421, e422, e423, e424, c_15, c_16, c_17, c_18, c_19, c_20, hvs⟩ := hI
       have hb425 := low0 hb234 hi420
       refine wpo_move (v := .slice (some ⟨B104, 0, none⟩) ms106.length cap105) e421 rfl ?_
       exact wpo_nil ⟨q315, bb316, B323, hi420, e421, e422, e423, e424, fun h => Xj 15 hS hcl rfl h, fun h => Xj 16 hS hcl rfl h, fun h => Xj 17 hS hcl rfl h, fun h => Xj 18 hS hcl rfl h, c_19, fun h => Xj 20 hS hcl rfl h, Vals.up 10 hvs rfl rfl rfl⟩
      refine Xq (fun S F w426 hS hbef hcl hI => ?_) ?_
      ·
       obtain ⟨q315, bb316, B323, hi427, e428, e429, e430, e431, c_15, c_16, c_17, c_18, c_19, c_20, hvs⟩ := hI
       have hb432 := low0 hb234 hi427
       refine wpo_move (v := .int .i64 (i : Int)) e431 rfl ?_
       exact wpo_nil ⟨q315, bb316, B323, hi427, e428, e429, e430, e431, fun h => Xj 15 hS hcl rfl h, fun h => Xj 16 hS hcl rfl h, fun h => Xj 17 hS hcl rfl h, fun h => Xj 18 hS hcl rfl h, c_19, fun h => Xj 20 hS hcl rfl h, Vals.up 11 hvs rfl rfl rfl⟩
      refine Xq (fun S F w433 hS hbef hcl hI => ?_) ?_
      ·
       obtain ⟨q315, bb316, B323, hi434, e435, e436, e437, e438, c_15, c_16, c_17, c_18, c_19, c_20, hvs⟩ := hI
       have hb439 := low0 hb234 hi434
       have ev440 := Vals.at 10 hvs rfl (Xg 10 hbef rfl)
       have ev441 := Vals.at 11 hvs rfl (Xg 11 hbef rfl)
       refine Xy Qe ev440 ev441 ha298 ho299 (by omega) (by omega) rfl ?_
       exact wpo_nil ⟨q315, bb316, B323, hi434, e435, e436, e437, e438, fun h => Xj 15 hS hcl rfl h, fun h => Xj 16 hS hcl rfl h, fun h => Xj 17 hS hcl rfl h, fun h => Xj 18 hS hcl rfl h, c_19, fun h => Xj 20 hS hcl rfl h, Vals.up 12 hvs rfl rfl rfl⟩
      refine Xq (fun S F w442 hS hbef hcl hI => ?_) ?_
      ·
       obtain ⟨q315, bb316, B323, hi443, e444, e445, e446, e447, c_15, c_16, c_17, c_18, c_19, c_20, hvs⟩ := hI
       have hb448 := low0 hb234 hi443
       have ev449 := Vals.at 10 hvs rfl (Xg 10 hbef rfl)
       have ev450 := Vals.at 11 hvs rfl (Xg 11 hbef rfl)
       have ev451 := Vals.at 12 hvs rfl (Xg 12 hbef rfl)
       refine wpo_fieldAddr (o' := o297 + 7) Jn ev451 rfl rfl ?_
       exact wpo_nil ⟨q315, bb316, B323, hi443, e444, e445, e446, e447, fun h => Xj 15 hS hcl rfl h, fun h => Xj 16 hS hcl rfl h, fun h => Xj 17 hS hcl rfl h, fun h => Xj 18 hS hcl rfl h, c_19, fun h => Xj 20 hS hcl rfl h, Vals.up 13 hvs rfl rfl rfl⟩
      refine Xq (fun S F w452 hS hbef hcl hI => ?_) ?_
      ·
       obtain ⟨q315, bb316, B323, hi453, e454, e455, e456, e457, c_15, c_16, c_17, c_18, c_19, c_20, hvs⟩ := hI
       have hb458 := low0 hb234 hi453
       have ev459 := Vals.at 10 hvs rfl (Xg 10 hbef rfl)
       have ev460 := Vals.at 11 hvs rfl (Xg 11 hbef rfl)
       have ev461 := Vals.at 12 hvs rfl (Xg 12 hbef rfl)
       have ev462 := Vals.at 13 hvs rfl (Xg 13 hbef rfl)
       refine wpo_load1 (v := .int .i64 ((mAt ms106 i).t.to)) X2 ev462 ((Yd hr300 hi453) 7 _ rfl) rfl ?_
       exact wpo_nil ⟨q315, bb316, B323, hi453, e454, e455, e456, e457, fun h => Xj 15 hS hcl rfl h, fun h => Xj 16 hS hcl rfl h, fun h => Xj 17 hS hcl rfl h, fun h => Xj 18 hS hcl rfl h, c_19, fun h => Xj 20 hS hcl rfl h, Vals.up 14 hvs rfl rfl rfl⟩
      refine Xq (fun S F w463 hS hbef hcl hI => ?_) ?_
      ·
       obtain ⟨q315, bb316, B323, hi464, e465, e466, e467, e468, c_15, c_16, c_17, c_18, c_19, c_20, hvs⟩ := hI
       have hb469 := low0 hb234 hi464
       have ev470 := Vals.at 0 hvs rfl (Xg 0 hbef rfl)
       have ev471 := Vals.at 1 hvs rfl (Xg 1 hbef rfl)
       have ev472 := Vals.at 2 hvs rfl (Xg 2 hbef rfl)
       have ev473 := Vals.at 3 hvs rfl (Xg 3 hbef rfl)
       have ev474 := Vals.at 4 hvs rfl (Xg 4 hbef rfl)
       have ev475 := Vals.at 5 hvs rfl (Xg 5 hbef rfl)
       have ev476 := Vals.at 6 hvs rfl (Xg 6 hbef rfl)
       have ev477 := Vals.at 7 hvs rfl (Xg 7 hbef rfl)
       have ev478 := Vals.at 8 hvs rfl (Xg 8 hbef rfl)
       have ev479 := Vals.at 9 hvs rfl (Xg 9 hbef rfl)
       have ev480 := Vals.at 10 hvs rfl (Xg 10 hbef rfl)
       have ev481 := Vals.at 11 hvs rfl (Xg 11 hbef rfl)
       have ev482 := Vals.at 12 hvs rfl (Xg 12 hbef rfl)
       have ev483 := Vals.at 13 hvs rfl (Xg 13 hbef rfl)
       have ev484 := Vals.at 14 hvs rfl (Xg 14 hbef rfl)
       refine Xi (vs := [.int .i64 ((mAt ms106 i).t.kind), .agg #[.int .i64 ((mAt ms106 i).t.lab.s), .int .i64 ((mAt ms106 i).t.lab.v)], .int .i64 ((mAt ms106 i).t.to)]) Nz (Xb ev474 (Xb ev479 (Xb ev484 Xh))) rfl (P0 ((mAt ms106 i).t.kind) ((mAt ms106 i).t.to) ((mAt ms106 i).t.lab) _) ?_
       rintro _ w491 ⟨q485, bb486, rfl, hq487, hA488, hle489, hg490⟩
       have hb492 := low0 hb469 hg490
       exact wpo_nil ⟨q485, bb486, B323, (low0 hi464 hg490), e465, e466, e467, e468, fun _ => ⟨rfl, hq487, hle489, hA488⟩, fun h => Xj 16 hS hcl rfl h, fun h => Xj 17 hS hcl rfl h, fun h => Xj 18 hS hcl rfl h, fun h => let ⟨y493, y494, y495, y496, y497⟩ := c_19 h; ⟨y493, y494, fun hn => (y495 hn).grown0 hg490, y496, y497⟩, fun h => Xj 20 hS hcl rfl h, Vals.keep hvs rfl⟩
      refine Xq (fun S F w498 hS hbef hcl hI => ?_) ?_
      ·
       obtain ⟨q315, bb316, B323, hi499, e500, e501, e502, e503, c_15, c_16, c_17, c_18, c_19, c_20, hvs⟩ := hI
       have hb504 := low0 hb234 hi499
       have ev505 := Vals.at 0 hvs rfl (Xg 0 hbef rfl)
       have ev506 := Vals.at 1 hvs rfl (Xg 1 hbef rfl)
       have ev507 := Vals.at 2 hvs rfl (Xg 2 hbef rfl)
       have ev508 := Vals.at 3 hvs rfl (Xg 3 hbef rfl)
       have ev509 := Vals.at 4 hvs rfl (Xg 4 hbef rfl)
       have ev510 := Vals.at 5 hvs rfl (Xg 5 hbef rfl)
       have ev511 := Vals.at 6 hvs rfl (Xg 6 hbef rfl)
       have ev512 := Vals.at 7 hvs rfl (Xg 7 hbef rfl)
       have ev513 := Vals.at 8 hvs rfl (Xg 8 hbef rfl)
       have ev514 := Vals.at 9 hvs rfl (Xg 9 hbef rfl)
       have ev515 := Vals.at 10 hvs rfl (Xg 10 hbef rfl)
       have ev516 := Vals.at 11 hvs rfl (Xg 11 hbef rfl)
       have ev517 := Vals.at 12 hvs rfl (Xg 12 hbef rfl)
       have ev518 := Vals.at 13 hvs rfl (Xg 13 hbef rfl)
       have ev519 := Vals.at 14 hvs rfl (Xg 14 hbef rfl)
       obtain ⟨e520, hq317, hle319, hA318⟩ := c_15 (Xg 15 hbef rfl)
       refine wpo_move (v := .tuple #[.agg #[.int .i64 q315.t.kind, .int .i64 q315.t.lab.s, .int .i64 q315.t.lab.v, .int .i64 q315.t.ve, .int .i64 q315.t.num, .slice q315.sa q315.t.slots.length q315.sc, .slice q315.qa q315.t.queue.length q315.qc, .int .i64 q315.t.to], .bool bb316]) e520 rfl ?_
       exact wpo_nil ⟨q315, bb316, B323, hi499, e500, e501, e502, e503, c_15, fun _ => rfl, fun h => Xj 17 hS hcl rfl h, fun h => Xj 18 hS hcl rfl h, c_19, fun h => Xj 20 hS hcl rfl h, Vals.keep hvs rfl⟩
      refine Xq (fun S F w521 hS hbef hcl hI => ?_) ?_
      ·
       obtain ⟨q315, bb316, B323, hi522, e523, e524, e525, e526, c_15, c_16, c_17, c_18, c_19, c_20, hvs⟩ := hI
       have hb527 := low0 hb234 hi522
       have ev528 := Vals.at 0 hvs rfl (Xg 0 hbef rfl)
       have ev529 := Vals.at 1 hvs rfl (Xg 1 hbef rfl)
       have ev530 := Vals.at 2 hvs rfl (Xg 2 hbef rfl)
       have ev531 := Vals.at 3 hvs rfl (Xg 3 hbef rfl)
       have ev532 := Vals.at 4 hvs rfl (Xg 4 hbef rfl)
       have ev533 := Vals.at 5 hvs rfl (Xg 5 hbef rfl)
       have ev534 := Vals.at 6 hvs rfl (Xg 6 hbef rfl)
       have ev535 := Vals.at 7 hvs rfl (Xg 7 hbef rfl)
       have ev536 := Vals.at 8 hvs rfl (Xg 8 hbef rfl)
       have ev537 := Vals.at 9 hvs rfl (Xg 9 hbef rfl)
       have ev538 := Vals.at 10 hvs rfl (Xg 10 hbef rfl)
       have ev539 := Vals.at 11 hvs rfl (Xg 11 hbef rfl)
       have ev540 := Vals.at 12 hvs rfl (Xg 12 hbef rfl)
       have ev541 := Vals.at 13 hvs rfl (Xg 13 hbef rfl)
       have ev542 := Vals.at 14 hvs rfl (Xg 14 hbef rfl)
       obtain ⟨e543, hq317, hle319, hA318⟩ := c_15 (Xg 15 hbef rfl)
       obtain e544 := c_16 (Xg 16 hbef rfl)
       refine wpo_extract (v := .agg #[.int .i64 q315.t.kind, .int .i64 q315.t.lab.s, .int .i64 q315.t.lab.v, .int .i64 q315.t.ve, .int .i64 q315.t.num, .slice q315.sa q315.t.slots.length q315.sc, .slice q315.qa q315.t.queue.length q315.qc, .int .i64 q315.t.to]) e544 rfl rfl ?_
       exact wpo_nil ⟨q315, bb316, B323, hi522, e523, e524, e525, e526, c_15, c_16, fun _ => rfl, c_18, c_19, fun h => Xj 20 hS hcl rfl h, Vals.keep hvs rfl⟩
      refine Xq (fun S F w545 hS hbef hcl hI => ?_) ?_
      ·
       obtain ⟨q315, bb316, B323, hi546, e547, e548, e549, e550, c_15, c_16, c_17, c_18, c_19, c_20, hvs⟩ := hI
       have hb551 := low0 hb234 hi546
       have ev552 := Vals.at 0 hvs rfl (Xg 0 hbef rfl)
       have ev553 := Vals.at 1 hvs rfl (Xg 1 hbef rfl)
       have ev554 := Vals.at 2 hvs rfl (Xg 2 hbef rfl)
       have ev555 := Vals.at 3 hvs rfl (Xg 3 hbef rfl)
       have ev556 := Vals.at 4 hvs rfl (Xg 4 hbef rfl)
       have ev557 := Vals.at 5 hvs rfl (Xg 5 hbef rfl)
       have ev558 := Vals.at 6 hvs rfl (Xg 6 hbef rfl)
       have ev559 := Vals.at 7 hvs rfl (Xg 7 hbef rfl)
       have ev560 := Vals.at 8 hvs rfl (Xg 8 hbef rfl)
       have ev561 := Vals.at 9 hvs rfl (Xg 9 hbef rfl)
       have ev562 := Vals.at 10 hvs rfl (Xg 10 hbef rfl)
       have ev563 := Vals.at 11 hvs rfl (Xg 11 hbef rfl)
       have ev564 := Vals.at 12 hvs rfl (Xg 12 hbef rfl)
       have ev565 := Vals.at 13 hvs rfl (Xg 13 hbef rfl)
       have ev566 := Vals.at 14 hvs rfl (Xg 14 hbef rfl)
       obtain ⟨e567, hq317, hle319, hA318⟩ := c_15 (Xg 15 hbef rfl)
       obtain e568 := c_16 (Xg 16 hbef rfl)
       refine wpo_extract (v := .bool bb316) e568 rfl rfl ?_
       exact wpo_nil ⟨q315, bb316, B323, hi546, e547, e548, e549, e550, c_15, c_16, c_17, fun _ => rfl, c_19, c_20, Vals.keep hvs rfl⟩
      refine Xq (fun S F w569 hS hbef hcl hI => ?_) ?_
      ·
       obtain ⟨q315, bb316, B323, hi570, e571, e572, e573, e574, c_15, c_16, c_17, c_18, c_19, c_20, hvs⟩ := hI
       have hb575 := low0 hb234 hi570
       refine wpo_alloc (cs := #[.int .i64 0, .int .i64 0, .int .i64 0, .int .i64 0, .int .i64 0, .slice none 0 0, .slice none 0 0, .int .i64 0]) Q2 rfl rfl ?_
       intro B576 w577 hN578
       have hlB576 := X0 hN578 hb575
       have k579 := (k240.grown0 hi570)
       have lt_B116_B576 := Xo hN578 (k579).lt
       have hb580 := low0 hb575 hN578.grw
       exact wpo_nil ⟨q315, bb316, B576, (low0 hi570 hN578.grw), e571, e572, e573, e574, fun h => let ⟨y581, y582, y583, y584⟩ := c_15 h; ⟨y581, y582, y583, (y584).low hN578.grw⟩, c_16, c_17, c_18, fun _ => ⟨rfl, hlB576, fun _ => hN578.blk, lt_B116_B576, (Nat.le_trans hi570.size hN578.ge)⟩, fun h => Xj 20 hS hcl rfl h, Vals.keep hvs rfl⟩
      refine Xq (fun S F w585 hS hbef hcl hI => ?_) ?_
      ·
       obtain ⟨q315, bb316, B323, hi586, e587, e588, e589, e590, c_15, c_16, c_17, c_18, c_19, c_20, hvs⟩ := hI
       have hb591 := low0 hb234 hi586
       have ev592 := Vals.at 0 hvs rfl (Xg 0 hbef rfl)
       have ev593 := Vals.at 1 hvs rfl (Xg 1 hbef rfl)
       have ev594 := Vals.at 2 hvs rfl (Xg 2 hbef rfl)
       have ev595 := Vals.at 3 hvs rfl (Xg 3 hbef rfl)
       have ev596 := Vals.at 4 hvs rfl (Xg 4 hbef rfl)
       have ev597 := Vals.at 5 hvs rfl (Xg 5 hbef rfl)
       have ev598 := Vals.at 6 hvs rfl (Xg 6 hbef rfl)
       have ev599 := Vals.at 7 hvs rfl (Xg 7 hbef rfl)
       have ev600 := Vals.at 8 hvs rfl (Xg 8 hbef rfl)
       have ev601 := Vals.at 9 hvs rfl (Xg 9 hbef rfl)
       have ev602 := Vals.at 10 hvs rfl (Xg 10 hbef rfl)
       have ev603 := Vals.at 11 hvs rfl (Xg 11 hbef rfl)
       have ev604 := Vals.at 12 hvs rfl (Xg 12 hbef rfl)
       have ev605 := Vals.at 13 hvs rfl (Xg 13 hbef rfl)
       have ev606 := Vals.at 14 hvs rfl (Xg 14 hbef rfl)
       obtain ⟨e607, hq317, hle319, hA318⟩ := c_15 (Xg 15 hbef rfl)
       obtain e608 := c_16 (Xg 16 hbef rfl)
       obtain e609 := c_17 (Xg 17 hbef rfl)
       obtain ⟨e610, hlB323, kb_B323, lt_B116_B323, hk_B323⟩ := c_19 (Xg 19 hbef rfl)
       refine wpo_storen (vs := [.int .i64 q315.t.kind, .int .i64 q315.t.lab.s, .int .i64 q315.t.lab.v, .int .i64 q315.t.ve, .int .i64 q315.t.num, .slice q315.sa q315.t.slots.length q315.sc, .slice q315.qa q315.t.queue.length q315.qc, .int .i64 q315.t.to]) (cs' := #[.int .i64 q315.t.kind, .int .i64 q315.t.lab.s, .int .i64 q315.t.lab.v, .int .i64 q315.t.ve, .int .i64 q315.t.num, .slice q315.sa q315.t.slots.length q315.sc, .slice q315.qa q315.t.queue.length q315.qc, .int .i64 q315.t.to]) Xx e610 e609 rfl (by simp [Value.oneCell']) (kb_B323 hS) (Nat.le_of_ble_eq_true rfl) rfl ?_
       intro w611 hS612
       have hb613 := low1 hb591 hS612.grw (by omega)
       exact wpo_nil ⟨q315, bb316, B323, (low1 hi586 hS612.grw (by omega)), e587, e588, e589, e590, fun h => let ⟨y614, y615, y616, y617⟩ := c_15 h; ⟨y614, y615, y616, (RowO.typB y617 hS612.grw (kb_B323 hS) (by decide) (by decide))⟩, c_16, c_17, c_18, fun h => let ⟨y618, y619, y620, y621, y622⟩ := c_19 h; ⟨y618, y619, fun h => Q1 h, y621, y622⟩, fun _ => hS612.blk, Vals.keep0 hvs rfl⟩
      exact Ka
     ·
      intro S F w623 hall hI
      obtain ⟨q315, bb316, B323, hi624, e625, e626, e627, e628, c_15, c_16, c_17, c_18, c_19, c_20, hvs⟩ := hI
      have hb629 := low0 hb234 hi624
      have ev630 := Vals.at 0 hvs rfl (hall 0 (by decide))
      have ev631 := Vals.at 1 hvs rfl (hall 1 (by decide))
      have ev632 := Vals.at 2 hvs rfl (hall 2 (by decide))
      have ev633 := Vals.at 3 hvs rfl (hall 3 (by decide))
      have ev634 := Vals.at 4 hvs rfl (hall 4 (by decide))
      have ev635 := Vals.at 5 hvs rfl (hall 5 (by decide))
      have ev636 := Vals.at 6 hvs rfl (hall 6 (by decide))
      have ev637 := Vals.at 7 hvs rfl (hall 7 (by decide))
      have ev638 := Vals.at 8 hvs rfl (hall 8 (by decide))
      have ev639 := Vals.at 9 hvs rfl (hall 9 (by decide))
      have ev640 := Vals.at 10 hvs rfl (hall 10 (by decide))
      have ev641 := Vals.at 11 hvs rfl (hall 11 (by decide))
      have ev642 := Vals.at 12 hvs rfl (hall 12 (by decide))
      have ev643 := Vals.at 13 hvs rfl (hall 13 (by decide))
      have ev644 := Vals.at 14 hvs rfl (hall 14 (by decide))
      obtain ⟨e645, hq317, hle319, hA318⟩ := c_15 (hall 15 (by decide))
      obtain e646 := c_16 (hall 16 (by decide))
      obtain e647 := c_17 (hall 17 (by decide))
      obtain e648 := c_18 (hall 18 (by decide))
      obtain ⟨e649, hlB323, kb_B323, lt_B116_B323, hk_B323⟩ := c_19 (hall 19 (by decide))
      obtain ks20_B323 := c_20 (hall 20 (by decide))
      refine wpo_assign (v := .bool bb316) e648 rfl ?_
      refine wpo_nil ?_
      refine Xs ?_
      refine Kc (fun f' w' => (f' 3 = .slice (some ⟨B104, 0, none⟩) ms106.length cap105 ∧ f' 4 = .pointer (some ⟨B116, 0, none⟩) ∧ f' 5 = .slice a124 us123.length cap125 ∧ f' 6 = .int .i64 (i : Int) ∧ f' 103 = .bool ((labelFlow ((mAt ms106 i).t.lab) l112 && (!(decide ((mAt us123 i).t = (mAt ms106 i).t)))) || ((!labelFlow ((mAt ms106 i).t.lab) l112) && (!(decide ((mAt us123 i).t = q315.t)))))) ∧ w623.grownBy w' none) ?_ ?_
      ·
       rcases X3 (labelFlow ((mAt ms106 i).t.lab) l112) with h683 | h683
       ·
        rcases X3 (!(decide ((mAt us123 i).t = (mAt ms106 i).t))) with h700 | h700
        ·
         have h701 := Je h700
         have h702 := of_decide_eq_false h701
         obtain ⟨b725, q726, o727, ha728, ho729, hr730⟩ := SlAt.at (TabAt.low hT127 (Xe (Xe hg206 hgl230) hi624)).1 (Ym (Xz (show i < us123.length by omega)))
         have hle731 := TabLen.at hTl131 (Xz (show i < us123.length by omega))
         refine Qy (m := 34) (vals := [(66, .slice (some ⟨B104, 0, none⟩) ms106.length cap105), (67, .int .i64 (i : Int)), (68, .pointer (some ⟨b295, o297, none⟩)), (69, .pointer (some ⟨b295, o297 + 1, none⟩)), (70, .agg #[.int .i64 ((mAt ms106 i).t.lab.s), .int .i64 ((mAt ms106 i).t.lab.v)]), (71, .agg #[.int .i64 l112.s, .int .i64 l112.v]), (72, .bool (labelFlow ((mAt ms106 i).t.lab) l112)), (73, .bool (labelFlow ((mAt ms106 i).t.lab) l112)), (74, .slice a124 us123.length cap125), (75, .int .i64 (i : Int)), (76, .pointer (some ⟨b725, o727, none⟩)), (77, .agg #[.int .i64 ((mAt us123 i).t.kind), .int .i64 ((mAt us123 i).t.lab.s), .int .i64 ((mAt us123 i).t.lab.v), .int .i64 ((mAt us123 i).t.ve), .int .i64 ((mAt us123 i).t.num), .slice ((mAt us123 i).sa) ((mAt us123 i).t.slots.length) ((mAt us123 i).sc), .slice ((mAt us123 i).qa) ((mAt us123 i).t.queue.length) ((mAt us123 i).qc), .int .i64 ((mAt us123 i).t.to)]), (78, .slice (some ⟨B104, 0, none⟩) ms106.length cap105), (79, .int .i64 (i : Int)), (80, .pointer (some ⟨b295, o297, none⟩)), (81, .agg #[.int .i64 ((mAt ms106 i).t.kind), .int .i64 ((mAt ms106 i).t.lab.s), .int .i64 ((mAt ms106 i).t.lab.v), .int .i64 ((mAt ms106 i).t.ve), .int .i64 ((mAt ms106 i).t.num), .slice ((mAt ms106 i).sa) ((mAt ms106 i).t.slots.length) ((mAt ms106 i).sc), .slice ((mAt ms106 i).qa) ((mAt ms106 i).t.queue.length) ((mAt ms106 i).qc), .int .i64 ((mAt ms106 i).t.to)]), (82, .bool (decide ((mAt us123 i).t = (mAt ms106 i).t))), (83, .bool (!(decide ((mAt us123 i).t = (mAt ms106 i).t)))), (84, .bool (!(decide ((mAt us123 i).t = (mAt ms106 i).t)))), (85, .bool (!(decide ((mAt us123 i).t = (mAt ms106 i).t)))), (86, undef), (87, undef), (88, undef), (89, undef), (90, undef), (91, undef), (92, undef), (93, undef), (94, undef), (95, undef), (96, undef), (97, undef), (98, undef), (99, undef)]) (fun w' => w623.grownBy w' none) Q5 (by kernel_rfl) (X7 _) ?_ ?_
         ·
          refine Xd rfl (fun w742 hi743 => ?_) ?_
          ·
           have hb744 := low0 hb629 hi743
           refine wpo_move (v := .slice (some ⟨B104, 0, none⟩) ms106.length cap105) e625 rfl ?_
           exact wpo_nil ⟨rfl, hi743⟩
          refine Xd rfl (fun w745 hi746 => ?_) ?_
          ·
           have hb747 := low0 hb629 hi746
           refine wpo_move (v := .int .i64 (i : Int)) e628 rfl ?_
           exact wpo_nil ⟨rfl, hi746⟩
          refine Xd rfl (fun w748 hi749 => ?_) ?_
          ·
           have hb750 := low0 hb629 hi749
           refine Xy Qe rfl rfl ha298 ho299 (by omega) (by omega) rfl ?_
           exact wpo_nil ⟨rfl, hi749⟩
          refine Xd rfl (fun w751 hi752 => ?_) ?_
          ·
           have hb753 := low0 hb629 hi752
           refine wpo_fieldAddr (o' := o297 + 1) Jm rfl rfl rfl ?_
           exact wpo_nil ⟨rfl, hi752⟩
          refine Xd rfl (fun w754 hi755 => ?_) ?_
          ·
           have hb756 := low0 hb629 hi755
           refine wpo_loadn (vs := [.int .i64 ((mAt ms106 i).t.lab.s), .int .i64 ((mAt ms106 i).t.lab.v)]) Yw rfl rfl (Yn (Yd hr300 (Xe hi624 hi755)) 1 2 rfl) rfl ?_
           exact wpo_nil ⟨rfl, hi755⟩
          refine Xd rfl (fun w757 hi758 => ?_) ?_
          ·
           have hb759 := low0 hb629 hi758
           have k760 := ((k240.grown0 hi624).grown0 hi758)
           refine wpo_loadn (vs := [.int .i64 l112.s, .int .i64 l112.v]) Yw e626 rfl (k760.rangeL 0 2 rfl) rfl ?_
           exact wpo_nil ⟨rfl, hi758⟩
          refine Xd rfl (fun w761 hi762 => ?_) ?_
          ·
           have hb763 := low0 hb629 hi762
           refine Xi (vs := [.agg #[.int .i64 ((mAt ms106 i).t.lab.s), .int .i64 ((mAt ms106 i).t.lab.v)], .agg #[.int .i64 l112.s, .int .i64 l112.v]]) H2 (Xb rfl (Xb rfl Xh)) rfl (Jw ((mAt ms106 i).t.lab) l112 _) ?_
           rintro _ w764 ⟨rfl, hg765⟩
           have hb766 := low0 hb763 hg765
           exact wpo_nil ⟨rfl, (Xe hi762 hg765)⟩
          refine Xd rfl (fun w767 hi768 => ?_) ?_
          ·
           have hb769 := low0 hb629 hi768
           refine wpo_move (v := .bool (labelFlow ((mAt ms106 i).t.lab) l112)) rfl rfl ?_
           exact wpo_nil ⟨rfl, hi768⟩
          refine Xd rfl (fun w770 hi771 => ?_) ?_
          ·
           have hb772 := low0 hb629 hi771
           refine Xc rfl rfl rfl h683 ?_
           refine wpo_move (v := .slice a124 us123.length cap125) e627 rfl ?_
           exact wpo_nil ⟨rfl, hi771⟩
          refine Xd rfl (fun w773 hi774 => ?_) ?_
          ·
           have hb775 := low0 hb629 hi774
           refine Xc rfl rfl rfl h683 ?_
           refine wpo_move (v := .int .i64 (i : Int)) e628 rfl ?_
           exact wpo_nil ⟨rfl, hi774⟩
          refine Xd rfl (fun w776 hi777 => ?_) ?_
          ·
           have hb778 := low0 hb629 hi777
           refine Xc rfl rfl rfl h683 ?_
           refine Xy Qe rfl rfl ha728 ho729 (by omega) (by omega) rfl ?_
           exact wpo_nil ⟨rfl, hi777⟩
          refine Xd rfl (fun w779 hi780 => ?_) ?_
          ·
           have hb781 := low0 hb629 hi780
           refine Xc rfl rfl rfl h683 ?_
           refine wpo_loadn (vs := [.int .i64 ((mAt us123 i).t.kind), .int .i64 ((mAt us123 i).t.lab.s), .int .i64 ((mAt us123 i).t.lab.v), .int .i64 ((mAt us123 i).t.ve), .int .i64 ((mAt us123 i).t.num), .slice ((mAt us123 i).sa) ((mAt us123 i).t.slots.length) ((mAt us123 i).sc), .slice ((mAt us123 i).qa) ((mAt us123 i).t.queue.length) ((mAt us123 i).qc), .int .i64 ((mAt us123 i).t.to)]) Xx rfl rfl (Yn (Yd hr730 hi780) 0 8 rfl) rfl ?_
           exact wpo_nil ⟨rfl, hi780⟩
          refine Xd rfl (fun w782 hi783 => ?_) ?_
          ·
           have hb784 := low0 hb629 hi783
           refine Xc rfl rfl rfl h683 ?_
           refine wpo_move (v := .slice (some ⟨B104, 0, none⟩) ms106.length cap105) e625 rfl ?_
           exact wpo_nil ⟨rfl, hi783⟩
          refine Xd rfl (fun w785 hi786 => ?_) ?_
          ·
           have hb787 := low0 hb629 hi786
           refine Xc rfl rfl rfl h683 ?_
           refine wpo_move (v := .int .i64 (i : Int)) e628 rfl ?_
           exact wpo_nil ⟨rfl, hi786⟩
          refine Xd rfl (fun w788 hi789 => ?_) ?_
          ·
           have hb790 := low0 hb629 hi789
           refine Xc rfl rfl rfl h683 ?_
           refine Xy Qe rfl rfl ha298 ho299 (by omega) (by omega) rfl ?_
           exact wpo_nil ⟨rfl, hi789⟩
          refine Xd rfl (fun w791 hi792 => ?_) ?_
          ·
           have hb793 := low0 hb629 hi792
           refine Xc rfl rfl rfl h683 ?_
           refine wpo_loadn (vs := [.int .i64 ((mAt ms106 i).t.kind), .int .i64 ((mAt ms106 i).t.lab.s), .int .i64 ((mAt ms106 i).t.lab.v), .int .i64 ((mAt ms106 i).t.ve), .int .i64 ((mAt ms106 i).t.num), .slice ((mAt ms106 i).sa) ((mAt ms106 i).t.slots.length) ((mAt ms106 i).sc), .slice ((mAt ms106 i).qa) ((mAt ms106 i).t.queue.length) ((mAt ms106 i).qc), .int .i64 ((mAt ms106 i).t.to)]) Xx rfl rfl (Yn (Yd hr300 (Xe hi624 hi792)) 0 8 rfl) rfl ?_
           exact wpo_nil ⟨rfl, hi792⟩
          refine Xd rfl (fun w794 hi795 => ?_) ?_
          ·
           have hb796 := low0 hb629 hi795
           refine Xc rfl rfl rfl h683 ?_
           refine Xi (vs := [.agg #[.int .i64 ((mAt us123 i).t.kind), .int .i64 ((mAt us123 i).t.lab.s), .int .i64 ((mAt us123 i).t.lab.v), .int .i64 ((mAt us123 i).t.ve), .int .i64 ((mAt us123 i).t.num), .slice ((mAt us123 i).sa) ((mAt us123 i).t.slots.length) ((mAt us123 i).sc), .slice ((mAt us123 i).qa) ((mAt us123 i).t.queue.length) ((mAt us123 i).qc), .int .i64 ((mAt us123 i).t.to)], .agg #[.int .i64 ((mAt ms106 i).t.kind), .int .i64 ((mAt ms106 i).t.lab.s), .int .i64 ((mAt ms106 i).t.lab.v), .int .i64 ((mAt ms106 i).t.ve), .int .i64 ((mAt ms106 i).t.num), .slice ((mAt ms106 i).sa) ((mAt ms106 i).t.slots.length) ((mAt ms106 i).sc), .slice ((mAt ms106 i).qa) ((mAt ms106 i).t.queue.length) ((mAt ms106 i).qc), .int .i64 ((mAt ms106 i).t.to)]]) Sc (Xb rfl (Xb rfl Xh)) rfl (Ud (mAt us123 i) (mAt ms106 i) _ (TabAt.th (TabAt.low hT127 (Xe (Xe (Xe hg206 hgl230) hi624) hi795)) (Xz (show i < us123.length by omega))) (TabAt.th (TabG.at (TabG.low hTG107 (low0 (low0 (low0 (low0 (low0 (low1 hN118.grw hS121.grw (Nat.le_trans ((World.grownBy.refl _ none)).size hN118.ge)) hg129) hg206) hgl230) hi624) hi795))) (Xz (show i < ms106.length by omega))) ⟨by first | omega | exact Nat.le_of_ble_eq_true rfl | (simp only [List.length_nil, List.length_cons, List.length_append, List.length_replicate]; omega), by first | omega | exact Nat.le_of_ble_eq_true rfl | (simp only [List.length_nil, List.length_cons, List.length_append, List.length_replicate]; omega)⟩ ⟨by first | omega | exact Nat.le_of_ble_eq_true rfl | (simp only [List.length_nil, List.length_cons, List.length_append, List.length_replicate]; omega), by first | omega | exact Nat.le_of_ble_eq_true rfl | (simp only [List.length_nil, List.length_cons, List.length_append, List.length_replicate]; omega)⟩) ?_
           rintro _ w797 ⟨rfl, hg798⟩
           have hb799 := low0 hb796 hg798
           exact wpo_nil ⟨rfl, (Xe hi795 hg798)⟩
          refine Xd rfl (fun w800 hi801 => ?_) ?_
          ·
           have hb802 := low0 hb629 hi801
           refine Xc rfl rfl rfl h683 ?_
           refine wpo_not (b' := !(decide ((mAt us123 i).t = (mAt ms106 i).t))) rfl rfl rfl ?_
           exact wpo_nil ⟨rfl, hi801⟩
          refine Xd rfl (fun w803 hi804 => ?_) ?_
          ·
           have hb805 := low0 hb629 hi804
           refine wpo_pickt (v := .bool (!(decide ((mAt us123 i).t = (mAt ms106 i).t)))) rfl h683 rfl rfl ?_
           exact wpo_nil ⟨rfl, hi804⟩
          refine Xd rfl (fun w806 hi807 => ?_) ?_
          ·
           have hb808 := low0 hb629 hi807
           refine wpo_move (v := .bool (!(decide ((mAt us123 i).t = (mAt ms106 i).t)))) rfl rfl ?_
           exact wpo_nil ⟨rfl, hi807⟩
          refine Xd rfl (fun w809 hi810 => ?_) ?_
          ·
           have hb811 := low0 hb629 hi810
           refine Xf rfl rfl rfl h700 rfl ?_
           exact wpo_nil ⟨rfl, hi810⟩
          refine Xd rfl (fun w812 hi813 => ?_) ?_
          ·
           have hb814 := low0 hb629 hi813
           refine Xf rfl rfl rfl h700 rfl ?_
           exact wpo_nil ⟨rfl, hi813⟩
          refine Xd rfl (fun w815 hi816 => ?_) ?_
          ·
           have hb817 := low0 hb629 hi816
           refine Xf rfl rfl rfl h700 rfl ?_
           exact wpo_nil ⟨rfl, hi816⟩
          refine Xd rfl (fun w818 hi819 => ?_) ?_
          ·
           have hb820 := low0 hb629 hi819
           refine Xf rfl rfl rfl h700 rfl ?_
           exact wpo_nil ⟨rfl, hi819⟩
          refine Xd rfl (fun w821 hi822 => ?_) ?_
          ·
           have hb823 := low0 hb629 hi822
           refine Xf rfl rfl rfl h700 rfl ?_
           exact wpo_nil ⟨rfl, hi822⟩
          refine Xd rfl (fun w824 hi825 => ?_) ?_
          ·
           have hb826 := low0 hb629 hi825
           refine Xf rfl rfl rfl h700 rfl ?_
           exact wpo_nil ⟨rfl, hi825⟩
          refine Xd rfl (fun w827 hi828 => ?_) ?_
          ·
           have hb829 := low0 hb629 hi828
           refine Xf rfl rfl rfl h700 rfl ?_
           exact wpo_nil ⟨rfl, hi828⟩
          refine Xd rfl (fun w830 hi831 => ?_) ?_
          ·
           have hb832 := low0 hb629 hi831
           refine Xf rfl rfl rfl h700 rfl ?_
           exact wpo_nil ⟨rfl, hi831⟩
          refine Xd rfl (fun w833 hi834 => ?_) ?_
          ·
           have hb835 := low0 hb629 hi834
           refine Xf rfl rfl rfl h700 rfl ?_
           exact wpo_nil ⟨rfl, hi834⟩
          refine Xd rfl (fun w836 hi837 => ?_) ?_
          ·
           have hb838 := low0 hb629 hi837
           refine X1 rfl rfl rfl rfl ?_
           exact wpo_nil ⟨rfl, hi837⟩
          refine Xd rfl (fun w839 hi840 => ?_) ?_
          ·
           have hb841 := low0 hb629 hi840
           refine X1 rfl rfl rfl rfl ?_
           exact wpo_nil ⟨rfl, hi840⟩
          refine Xd rfl (fun w842 hi843 => ?_) ?_
          ·
           have hb844 := low0 hb629 hi843
           refine X1 rfl rfl rfl rfl ?_
           exact wpo_nil ⟨rfl, hi843⟩
          refine Xd rfl (fun w845 hi846 => ?_) ?_
          ·
           have hb847 := low0 hb629 hi846
           refine X1 rfl rfl rfl rfl ?_
           exact wpo_nil ⟨rfl, hi846⟩
          refine Xd rfl (fun w848 hi849 => ?_) ?_
          ·
           have hb850 := low0 hb629 hi849
           refine X1 rfl rfl rfl rfl ?_
           exact wpo_nil ⟨rfl, hi849⟩
          exact Jb
         ·
          intro w851 hi852
          have hb853 := low0 hb629 hi852
          refine X1 rfl rfl rfl rfl ?_
          refine X1 rfl rfl rfl rfl ?_
          refine Xf rfl rfl rfl h700 rfl ?_
          refine wpo_pickt (v := .bool true) rfl h700 rfl rfl ?_
          exact wpo_nil (Xs ⟨⟨e625, e626, e627, e628, (congrArg Value.bool (by first | (simp only [h101, h208, h224, h225, h226, h227, h228, h229, h241, h683, h700, h701, b0, b1, b2, b3, b4, b5, b6, b7, b8, b9]; done) | simp [h101, h208, h224, h225, h226, h227, h228, h229, h241, h683, h700, h701]))⟩, hi852⟩)
        ·
         have h854 := Qo h700
         have h855 := of_decide_eq_true h854
         obtain ⟨b882, q883, o884, ha885, ho886, hr887⟩ := SlAt.at (TabAt.low hT127 (Xe (Xe hg206 hgl230) hi624)).1 (Ym (Xz (show i < us123.length by omega)))
         have hle888 := TabLen.at hTl131 (Xz (show i < us123.length by omega))
         refine Qy (m := 34) (vals := [(66, .slice (some ⟨B104, 0, none⟩) ms106.length cap105), (67, .int .i64 (i : Int)), (68, .pointer (some ⟨b295, o297, none⟩)), (69, .pointer (some ⟨b295, o297 + 1, none⟩)), (70, .agg #[.int .i64 ((mAt ms106 i).t.lab.s), .int .i64 ((mAt ms106 i).t.lab.v)]), (71, .agg #[.int .i64 l112.s, .int .i64 l112.v]), (72, .bool (labelFlow ((mAt ms106 i).t.lab) l112)), (73, .bool (labelFlow ((mAt ms106 i).t.lab) l112)), (74, .slice a124 us123.length cap125), (75, .int .i64 (i : Int)), (76, .pointer (some ⟨b882, o884, none⟩)), (77, .agg #[.int .i64 ((mAt us123 i).t.kind), .int .i64 ((mAt us123 i).t.lab.s), .int .i64 ((mAt us123 i).t.lab.v), .int .i64 ((mAt us123 i).t.ve), .int .i64 ((mAt us123 i).t.num), .slice ((mAt us123 i).sa) ((mAt us123 i).t.slots.length) ((mAt us123 i).sc), .slice ((mAt us123 i).qa) ((mAt us123 i).t.queue.length) ((mAt us123 i).qc), .int .i64 ((mAt us123 i).t.to)]), (78, .slice (some ⟨B104, 0, none⟩) ms106.length cap105), (79, .int .i64 (i : Int)), (80, .pointer (some ⟨b295, o297, none⟩)), (81, .agg #[.int .i64 ((mAt ms106 i).t.kind), .int .i64 ((mAt ms106 i).t.lab.s), .int .i64 ((mAt ms106 i).t.lab.v), .int .i64 ((mAt ms106 i).t.ve), .int .i64 ((mAt ms106 i).t.num), .slice ((mAt ms106 i).sa) ((mAt ms106 i).t.slots.length) ((mAt ms106 i).sc), .slice ((mAt ms106 i).qa) ((mAt ms106 i).t.queue.length) ((mAt ms106 i).qc), .int .i64 ((mAt ms106 i).t.to)]), (82, .bool (decide ((mAt us123 i).t = (mAt ms106 i).t))), (83, .bool (!(decide ((mAt us123 i).t = (mAt ms106 i).t)))), (84, .bool (!(decide ((mAt us123 i).t = (mAt ms106 i).t)))), (85, .bool (!(decide ((mAt us123 i).t = (mAt ms106 i).t)))), (86, .slice (some ⟨B104, 0, none⟩) ms106.length cap105), (87, .int .i64 (i : Int)), (88, .pointer (some ⟨b295, o297, none⟩)), (89, .pointer (some ⟨b295, o297 + 1, none⟩)), (90, .agg #[.int .i64 ((mAt ms106 i).t.lab.s), .int .i64 ((mAt ms106 i).t.lab.v)]), (91, .agg #[.int .i64 l112.s, .int .i64 l112.v]), (92, .bool (labelFlow ((mAt ms106 i).t.lab) l112)), (93, .bool (!labelFlow ((mAt ms106 i).t.lab) l112)), (94, .bool (!labelFlow ((mAt ms106 i).t.lab) l112)), (95, undef), (96, undef), (97, undef), (98, undef), (99, undef)]) (fun w' => w623.grownBy w' none) Q5 (by kernel_rfl) (X7 _) ?_ ?_
         ·
          refine Xd rfl (fun w907 hi908 => ?_) ?_
          ·
           have hb909 := low0 hb629 hi908
           refine wpo_move (v := .slice (some ⟨B104, 0, none⟩) ms106.length cap105) e625 rfl ?_
           exact wpo_nil ⟨rfl, hi908⟩
          refine Xd rfl (fun w910 hi911 => ?_) ?_
          ·
           have hb912 := low0 hb629 hi911
           refine wpo_move (v := .int .i64 (i : Int)) e628 rfl ?_
           exact wpo_nil ⟨rfl, hi911⟩
          refine Xd rfl (fun w913 hi914 => ?_) ?_
          ·
           have hb915 := low0 hb629 hi914
           refine Xy Qe rfl rfl ha298 ho299 (by omega) (by omega) rfl ?_
           exact wpo_nil ⟨rfl, hi914⟩
          refine Xd rfl (fun w916 hi917 => ?_) ?_
          ·
           have hb918 := low0 hb629 hi917
           refine wpo_fieldAddr (o' := o297 + 1) Jm rfl rfl rfl ?_
           exact wpo_nil ⟨rfl, hi917⟩
          refine Xd rfl (fun w919 hi920 => ?_) ?_
          ·
           have hb921 := low0 hb629 hi920
           refine wpo_loadn (vs := [.int .i64 ((mAt ms106 i).t.lab.s), .int .i64 ((mAt ms106 i).t.lab.v)]) Yw rfl rfl (Yn (Yd hr300 (Xe hi624 hi920)) 1 2 rfl) rfl ?_
           exact wpo_nil ⟨rfl, hi920⟩
          refine Xd rfl (fun w922 hi923 => ?_) ?_
          ·
           have hb924 := low0 hb629 hi923
           have k925 := ((k240.grown0 hi624).grown0 hi923)
           refine wpo_loadn (vs := [.int .i64 l112.s, .int .i64 l112.v]) Yw e626 rfl (k925.rangeL 0 2 rfl) rfl ?_
           exact wpo_nil ⟨rfl, hi923⟩
          refine Xd rfl (fun w926 hi927 => ?_) ?_
          ·
           have hb928 := low0 hb629 hi927
           refine Xi (vs := [.agg #[.int .i64 ((mAt ms106 i).t.lab.s), .int .i64 ((mAt ms106 i).t.lab.v)], .agg #[.int .i64 l112.s, .int .i64 l112.v]]) H2 (Xb rfl (Xb rfl Xh)) rfl (Jw ((mAt ms106 i).t.lab) l112 _) ?_
           rintro _ w929 ⟨rfl, hg930⟩
           have hb931 := low0 hb928 hg930
           exact wpo_nil ⟨rfl, (Xe hi927 hg930)⟩
          refine Xd rfl (fun w932 hi933 => ?_) ?_
          ·
           have hb934 := low0 hb629 hi933
           refine wpo_move (v := .bool (labelFlow ((mAt ms106 i).t.lab) l112)) rfl rfl ?_
           exact wpo_nil ⟨rfl, hi933⟩
          refine Xd rfl (fun w935 hi936 => ?_) ?_
          ·
           have hb937 := low0 hb629 hi936
           refine Xc rfl rfl rfl h683 ?_
           refine wpo_move (v := .slice a124 us123.length cap125) e627 rfl ?_
           exact wpo_nil ⟨rfl, hi936⟩
          refine Xd rfl (fun w938 hi939 => ?_) ?_
          ·
           have hb940 := low0 hb629 hi939
           refine Xc rfl rfl rfl h683 ?_
           refine wpo_move (v := .int .i64 (i : Int)) e628 rfl ?_
           exact wpo_nil ⟨rfl, hi939⟩
          refine Xd rfl (fun w941 hi942 => ?_) ?_
          ·
           have hb943 := low0 hb629 hi942
           refine Xc rfl rfl rfl h683 ?_
           refine Xy Qe rfl rfl ha885 ho886 (by omega) (by omega) rfl ?_
           exact wpo_nil ⟨rfl, hi942⟩
          refine Xd rfl (fun w944 hi945 => ?_) ?_
          ·
           have hb946 := low0 hb629 hi945
           refine Xc rfl rfl rfl h683 ?_
           refine wpo_loadn (vs := [.int .i64 ((mAt us123 i).t.kind), .int .i64 ((mAt us123 i).t.lab.s), .int .i64 ((mAt us123 i).t.lab.v), .int .i64 ((mAt us123 i).t.ve), .int .i64 ((mAt us123 i).t.num), .slice ((mAt us123 i).sa) ((mAt us123 i).t.slots.length) ((mAt us123 i).sc), .slice ((mAt us123 i).qa) ((mAt us123 i).t.queue.length) ((mAt us123 i).qc), .int .i64 ((mAt us123 i).t.to)]) Xx rfl rfl (Yn (Yd hr887 hi945) 0 8 rfl) rfl ?_
           exact wpo_nil ⟨rfl, hi945⟩
          refine Xd rfl (fun w947 hi948 => ?_) ?_
          ·
           have hb949 := low0 hb629 hi948
           refine Xc rfl rfl rfl h683 ?_
           refine wpo_move (v := .slice (some ⟨B104, 0, none⟩) ms106.length cap105) e625 rfl ?_
           exact wpo_nil ⟨rfl, hi948⟩
          refine Xd rfl (fun w950 hi951 => ?_) ?_
          ·
           have hb952 := low0 hb629 hi951
           refine Xc rfl rfl rfl h683 ?_
           refine wpo_move (v := .int .i64 (i : Int)) e628 rfl ?_
           exact wpo_nil ⟨rfl, hi951⟩
          refine Xd rfl (fun w953 hi954 => ?_) ?_
          ·
           have hb955 := low0 hb629 hi954
           refine Xc rfl rfl rfl h683 ?_
           refine Xy Qe rfl rfl ha298 ho299 (by omega) (by omega) rfl ?_
           exact wpo_nil ⟨rfl, hi954⟩
          refine Xd rfl (fun w956 hi957 => ?_) ?_
          ·
           have hb958 := low0 hb629 hi957
           refine Xc rfl rfl rfl h683 ?_
           refine wpo_loadn (vs := [.int .i64 ((mAt ms106 i).t.kind), .int .i64 ((mAt ms106 i).t.lab.s), .int .i64 ((mAt ms106 i).t.lab.v), .int .i64 ((mAt ms106 i).t.ve), .int .i64 ((mAt ms106 i).t.num), .slice ((mAt ms106 i).sa) ((mAt ms106 i).t.slots.length) ((mAt ms106 i).sc), .slice ((mAt ms106 i).qa) ((mAt ms106 i).t.queue.length) ((mAt ms106 i).qc), .int .i64 ((mAt ms106 i).t.to)]) Xx rfl rfl (Yn (Yd hr300 (Xe hi624 hi957)) 0 8 rfl) rfl ?_
           exact wpo_nil ⟨rfl, hi957⟩
          refine Xd rfl (fun w959 hi960 => ?_) ?_
          ·
           have hb961 := low0 hb629 hi960
           refine Xc rfl rfl rfl h683 ?_
           refine Xi (vs := [.agg #[.int .i64 ((mAt us123 i).t.kind), .int .i64 ((mAt us123 i).t.lab.s), .int .i64 ((mAt us123 i).t.lab.v), .int .i64 ((mAt us123 i).t.ve), .int .i64 ((mAt us123 i).t.num), .slice ((mAt us123 i).sa) ((mAt us123 i).t.slots.length) ((mAt us123 i).sc), .slice ((mAt us123 i).qa) ((mAt us123 i).t.queue.length) ((mAt us123 i).qc), .int .i64 ((mAt us123 i).t.to)], .agg #[.int .i64 ((mAt ms106 i).t.kind), .int .i64 ((mAt ms106 i).t.lab.s), .int .i64 ((mAt ms106 i).t.lab.v), .int .i64 ((mAt ms106 i).t.ve), .int .i64 ((mAt ms106 i).t.num), .slice ((mAt ms106 i).sa) ((mAt ms106 i).t.slots.length) ((mAt ms106 i).sc), .slice ((mAt ms106 i).qa) ((mAt ms106 i).t.queue.length) ((mAt ms106 i).qc), .int .i64 ((mAt ms106 i).t.to)]]) Sc (Xb rfl (Xb rfl Xh)) rfl (Ud (mAt us123 i) (mAt ms106 i) _ (TabAt.th (TabAt.low hT127 (Xe (Xe (Xe hg206 hgl230) hi624) hi960)) (Xz (show i < us123.length by omega))) (TabAt.th (TabG.at (TabG.low hTG107 (low0 (low0 (low0 (low0 (low0 (low1 hN118.grw hS121.grw (Nat.le_trans ((World.grownBy.refl _ none)).size hN118.ge)) hg129) hg206) hgl230) hi624) hi960))) (Xz (show i < ms106.length by omega))) ⟨by first | omega | exact Nat.le_of_ble_eq_true rfl | (simp only [List.length_nil, List.length_cons, List.length_append, List.length_replicate]; omega), by first | omega | exact Nat.le_of_ble_eq_true rfl | (simp only [List.length_nil, List.length_cons, List.length_append, List.length_replicate]; omega)⟩ ⟨by first | omega | exact Nat.le_of_ble_eq_true rfl | (simp only [List.length_nil, List.length_cons, List.length_append, List.length_replicate]; omega), by first | omega | exact Nat.le_of_ble_eq_true rfl | (simp only [List.length_nil, List.length_cons, List.length_append, List.length_replicate]; omega)⟩) ?_
           rintro _ w962 ⟨rfl, hg963⟩
           have hb964 := low0 hb961 hg963
           exact wpo_nil ⟨rfl, (Xe hi960 hg963)⟩
          refine Xd rfl (fun w965 hi966 => ?_) ?_
          ·
           have hb967 := low0 hb629 hi966
           refine Xc rfl rfl rfl h683 ?_
           refine wpo_not (b' := !(decide ((mAt us123 i).t = (mAt ms106 i).t))) rfl rfl rfl ?_
           exact wpo_nil ⟨rfl, hi966⟩
          refine Xd rfl (fun w968 hi969 => ?_) ?_
          ·
           have hb970 := low0 hb629 hi969
           refine wpo_pickt (v := .bool (!(decide ((mAt us123 i).t = (mAt ms106 i).t)))) rfl h683 rfl rfl ?_
           exact wpo_nil ⟨rfl, hi969⟩
          refine Xd rfl (fun w971 hi972 => ?_) ?_
          ·
           have hb973 := low0 hb629 hi972
           refine wpo_move (v := .bool (!(decide ((mAt us123 i).t = (mAt ms106 i).t)))) rfl rfl ?_
           exact wpo_nil ⟨rfl, hi972⟩
          refine Xd rfl (fun w974 hi975 => ?_) ?_
          ·
           have hb976 := low0 hb629 hi975
           refine Xc rfl rfl rfl h700 ?_
           refine wpo_move (v := .slice (some ⟨B104, 0, none⟩) ms106.length cap105) e625 rfl ?_
           exact wpo_nil ⟨rfl, hi975⟩
          refine Xd rfl (fun w977 hi978 => ?_) ?_
          ·
           have hb979 := low0 hb629 hi978
           refine Xc rfl rfl rfl h700 ?_
           refine wpo_move (v := .int .i64 (i : Int)) e628 rfl ?_
           exact wpo_nil ⟨rfl, hi978⟩
          refine Xd rfl (fun w980 hi981 => ?_) ?_
          ·
           have hb982 := low0 hb629 hi981
           refine Xc rfl rfl rfl h700 ?_
           refine Xy Qe rfl rfl ha298 ho299 (by omega) (by omega) rfl ?_
           exact wpo_nil ⟨rfl, hi981⟩
          refine Xd rfl (fun w983 hi984 => ?_) ?_
          ·
           have hb985 := low0 hb629 hi984
           refine Xc rfl rfl rfl h700 ?_
           refine wpo_fieldAddr (o' := o297 + 1) Jm rfl rfl rfl ?_
           exact wpo_nil ⟨rfl, hi984⟩
          refine Xd rfl (fun w986 hi987 => ?_) ?_
          ·
           have hb988 := low0 hb629 hi987
           refine Xc rfl rfl rfl h700 ?_
           refine wpo_loadn (vs := [.int .i64 ((mAt ms106 i).t.lab.s), .int .i64 ((mAt ms106 i).t.lab.v)]) Yw rfl rfl (Yn (Yd hr300 (Xe hi624 hi987)) 1 2 rfl) rfl ?_
           exact wpo_nil ⟨rfl, hi987⟩
          refine Xd rfl (fun w989 hi990 => ?_) ?_
          ·
           have hb991 := low0 hb629 hi990
           refine Xc rfl rfl rfl h700 ?_
           have k992 := ((k240.grown0 hi624).grown0 hi990)
           refine wpo_loadn (vs := [.int .i64 l112.s, .int .i64 l112.v]) Yw e626 rfl (k992.rangeL 0 2 rfl) rfl ?_
           exact wpo_nil ⟨rfl, hi990⟩
          refine Xd rfl (fun w993 hi994 => ?_) ?_
          ·
           have hb995 := low0 hb629 hi994
           refine Xc rfl rfl rfl h700 ?_
           refine Xi (vs := [.agg #[.int .i64 ((mAt ms106 i).t.lab.s), .int .i64 ((mAt ms106 i).t.lab.v)], .agg #[.int .i64 l112.s, .int .i64 l112.v]]) H2 (Xb rfl (Xb rfl Xh)) rfl (Jw ((mAt ms106 i).t.lab) l112 _) ?_
           rintro _ w996 ⟨rfl, hg997⟩
           have hb998 := low0 hb995 hg997
           exact wpo_nil ⟨rfl, (Xe hi994 hg997)⟩
          refine Xd rfl (fun w999 hi1000 => ?_) ?_
          ·
           have hb1001 := low0 hb629 hi1000
           refine Xc rfl rfl rfl h700 ?_
           refine wpo_not (b' := !labelFlow ((mAt ms106 i).t.lab) l112) rfl rfl rfl ?_
           exact wpo_nil ⟨rfl, hi1000⟩
          refine Xd rfl (fun w1002 hi1003 => ?_) ?_
          ·
           have hb1004 := low0 hb629 hi1003
           refine Xc rfl rfl rfl h700 ?_
           refine wpo_move (v := .bool (!labelFlow ((mAt ms106 i).t.lab) l112)) rfl rfl ?_
           exact wpo_nil ⟨rfl, hi1003⟩
          refine Xd rfl (fun w1005 hi1006 => ?_) ?_
          ·
           have hb1007 := low0 hb629 hi1006
           refine Xf rfl rfl rfl (Qj h683) rfl ?_
           exact wpo_nil ⟨rfl, hi1006⟩
          refine Xd rfl (fun w1008 hi1009 => ?_) ?_
          ·
           have hb1010 := low0 hb629 hi1009
           refine Xf rfl rfl rfl (Qj h683) rfl ?_
           exact wpo_nil ⟨rfl, hi1009⟩
          refine Xd rfl (fun w1011 hi1012 => ?_) ?_
          ·
           have hb1013 := low0 hb629 hi1012
           refine Xf rfl rfl rfl (Qj h683) rfl ?_
           exact wpo_nil ⟨rfl, hi1012⟩
          refine Xd rfl (fun w1014 hi1015 => ?_) ?_
          ·
           have hb1016 := low0 hb629 hi1015
           refine Xf rfl rfl rfl (Qj h683) rfl ?_
           exact wpo_nil ⟨rfl, hi1015⟩
          refine Xd rfl (fun w1017 hi1018 => ?_) ?_
          ·
           have hb1019 := low0 hb629 hi1018
           refine Xf rfl rfl rfl (Qj h683) rfl ?_
           exact wpo_nil ⟨rfl, hi1018⟩
          exact Jb
         ·
          intro w1020 hi1021
          have hb1022 := low0 hb629 hi1021
          refine Xf rfl rfl rfl (Qj h683) rfl ?_
          refine Xf rfl rfl rfl (Qj h683) rfl ?_
          refine Xc rfl rfl rfl h700 ?_
          refine wpo_pickf (v := .bool false) rfl (Qj h683) rfl rfl ?_
          refine wpo_pickf (v := .bool false) rfl h700 rfl rfl ?_
          exact wpo_nil (Xs ⟨⟨e625, e626, e627, e628, (congrArg Value.bool (by first | (simp only [h101, h208, h224, h225, h226, h227, h228, h229, h241, h683, h700, h854, b0, b1, b2, b3, b4, b5, b6, b7, b8, b9]; done) | simp [h101, h208, h224, h225, h226, h227, h228, h229, h241, h683, h700, h854]))⟩, hi1021⟩)
       ·
        obtain ⟨b1054, q1055, o1056, ha1057, ho1058, hr1059⟩ := SlAt.at (TabAt.low hT127 (Xe (Xe hg206 hgl230) hi624)).1 (Ym (Xz (show i < us123.length by omega)))
        have hle1060 := TabLen.at hTl131 (Xz (show i < us123.length by omega))
        refine Qy (m := 34) (vals := [(66, .slice (some ⟨B104, 0, none⟩) ms106.length cap105), (67, .int .i64 (i : Int)), (68, .pointer (some ⟨b295, o297, none⟩)), (69, .pointer (some ⟨b295, o297 + 1, none⟩)), (70, .agg #[.int .i64 ((mAt ms106 i).t.lab.s), .int .i64 ((mAt ms106 i).t.lab.v)]), (71, .agg #[.int .i64 l112.s, .int .i64 l112.v]), (72, .bool (labelFlow ((mAt ms106 i).t.lab) l112)), (73, .bool (labelFlow ((mAt ms106 i).t.lab) l112)), (74, undef), (75, undef), (76, undef), (77, undef), (78, undef), (79, undef), (80, undef), (81, undef), (82, undef), (83, undef), (84, .bool false), (85, .bool false), (86, .slice (some ⟨B104, 0, none⟩) ms106.length cap105), (87, .int .i64 (i : Int)), (88, .pointer (some ⟨b295, o297, none⟩)), (89, .pointer (some ⟨b295, o297 + 1, none⟩)), (90, .agg #[.int .i64 ((mAt ms106 i).t.lab.s), .int .i64 ((mAt ms106 i).t.lab.v)]), (91, .agg #[.int .i64 l112.s, .int .i64 l112.v]), (92, .bool (labelFlow ((mAt ms106 i).t.lab) l112)), (93, .bool (!labelFlow ((mAt ms106 i).t.lab) l112)), (94, .bool (!labelFlow ((mAt ms106 i).t.lab) l112)), (95, .slice a124 us123.length cap125), (96, .int .i64 (i : Int)), (97, .pointer (some ⟨b1054, o1056, none⟩)), (98, .agg #[.int .i64 ((mAt us123 i).t.kind), .int .i64 ((mAt us123 i).t.lab.s), .int .i64 ((mAt us123 i).t.lab.v), .int .i64 ((mAt us123 i).t.ve), .int .i64 ((mAt us123 i).t.num), .slice ((mAt us123 i).sa) ((mAt us123 i).t.slots.length) ((mAt us123 i).sc), .slice ((mAt us123 i).qa) ((mAt us123 i).t.queue.length) ((mAt us123 i).qc), .int .i64 ((mAt us123 i).t.to)]), (99, .agg #[.int .i64 q315.t.kind, .int .i64 q315.t.lab.s, .int .i64 q315.t.lab.v, .int .i64 q315.t.ve, .int .i64 q315.t.num, .slice q315.sa q315.t.slots.length q315.sc, .slice q315.qa q315.t.queue.length q315.qc, .int .i64 q315.t.to])]) (fun w' => w623.grownBy w' none) Q5 (by kernel_rfl) (X7 _) ?_ ?_
        ·
         refine Xd rfl (fun w1074 hi1075 => ?_) ?_
         ·
          have hb1076 := low0 hb629 hi1075
          refine wpo_move (v := .slice (some ⟨B104, 0, none⟩) ms106.length cap105) e625 rfl ?_
          exact wpo_nil ⟨rfl, hi1075⟩
         refine Xd rfl (fun w1077 hi1078 => ?_) ?_
         ·
          have hb1079 := low0 hb629 hi1078
          refine wpo_move (v := .int .i64 (i : Int)) e628 rfl ?_
          exact wpo_nil ⟨rfl, hi1078⟩
         refine Xd rfl (fun w1080 hi1081 => ?_) ?_
         ·
          have hb1082 := low0 hb629 hi1081
          refine Xy Qe rfl rfl ha298 ho299 (by omega) (by omega) rfl ?_
          exact wpo_nil ⟨rfl, hi1081⟩
         refine Xd rfl (fun w1083 hi1084 => ?_) ?_
         ·
          have hb1085 := low0 hb629 hi1084
          refine wpo_fieldAddr (o' := o297 + 1) Jm rfl rfl rfl ?_
          exact wpo_nil ⟨rfl, hi1084⟩
         refine Xd rfl (fun w1086 hi1087 => ?_) ?_
         ·
          have hb1088 := low0 hb629 hi1087
          refine wpo_loadn (vs := [.int .i64 ((mAt ms106 i).t.lab.s), .int .i64 ((mAt ms106 i).t.lab.v)]) Yw rfl rfl (Yn (Yd hr300 (Xe hi624 hi1087)) 1 2 rfl) rfl ?_
          exact wpo_nil ⟨rfl, hi1087⟩
         refine Xd rfl (fun w1089 hi1090 => ?_) ?_
         ·
          have hb1091 := low0 hb629 hi1090
          have k1092 := ((k240.grown0 hi624).grown0 hi1090)
          refine wpo_loadn (vs := [.int .i64 l112.s, .int .i64 l112.v]) Yw e626 rfl (k1092.rangeL 0 2 rfl) rfl ?_
          exact wpo_nil ⟨rfl, hi1090⟩
         refine Xd rfl (fun w1093 hi1094 => ?_) ?_
         ·
          have hb1095 := low0 hb629 hi1094
          refine Xi (vs := [.agg #[.int .i64 ((mAt ms106 i).t.lab.s), .int .i64 ((mAt ms106 i).t.lab.v)], .agg #[.int .i64 l112.s, .int .i64 l112.v]]) H2 (Xb rfl (Xb rfl Xh)) rfl (Jw ((mAt ms106 i).t.lab) l112 _) ?_
          rintro _ w1096 ⟨rfl, hg1097⟩
          have hb1098 := low0 hb1095 hg1097
          exact wpo_nil ⟨rfl, (Xe hi1094 hg1097)⟩
         refine Xd rfl (fun w1099 hi1100 => ?_) ?_
         ·
          have hb1101 := low0 hb629 hi1100
          refine wpo_move (v := .bool (labelFlow ((mAt ms106 i).t.lab) l112)) rfl rfl ?_
          exact wpo_nil ⟨rfl, hi1100⟩
         refine Xd rfl (fun w1102 hi1103 => ?_) ?_
         ·
          have hb1104 := low0 hb629 hi1103
          refine Xf rfl rfl rfl h683 rfl ?_
          exact wpo_nil ⟨rfl, hi1103⟩
         refine Xd rfl (fun w1105 hi1106 => ?_) ?_
         ·
          have hb1107 := low0 hb629 hi1106
          refine Xf rfl rfl rfl h683 rfl ?_
          exact wpo_nil ⟨rfl, hi1106⟩
         refine Xd rfl (fun w1108 hi1109 => ?_) ?_
         ·
          have hb1110 := low0 hb629 hi1109
          refine Xf rfl rfl rfl h683 rfl ?_
          exact wpo_nil ⟨rfl, hi1109⟩
         refine Xd rfl (fun w1111 hi1112 => ?_) ?_
         ·
          have hb1113 := low0 hb629 hi1112
          refine Xf rfl rfl rfl h683 rfl ?_
          exact wpo_nil ⟨rfl, hi1112⟩
         refine Xd rfl (fun w1114 hi1115 => ?_) ?_
         ·
          have hb1116 := low0 hb629 hi1115
          refine Xf rfl rfl rfl h683 rfl ?_
          exact wpo_nil ⟨rfl, hi1115⟩
         refine Xd rfl (fun w1117 hi1118 => ?_) ?_
         ·
          have hb1119 := low0 hb629 hi1118
          refine Xf rfl rfl rfl h683 rfl ?_
          exact wpo_nil ⟨rfl, hi1118⟩
         refine Xd rfl (fun w1120 hi1121 => ?_) ?_
         ·
          have hb1122 := low0 hb629 hi1121
          refine Xf rfl rfl rfl h683 rfl ?_
          exact wpo_nil ⟨rfl, hi1121⟩
         refine Xd rfl (fun w1123 hi1124 => ?_) ?_
         ·
          have hb1125 := low0 hb629 hi1124
          refine Xf rfl rfl rfl h683 rfl ?_
          exact wpo_nil ⟨rfl, hi1124⟩
         refine Xd rfl (fun w1126 hi1127 => ?_) ?_
         ·
          have hb1128 := low0 hb629 hi1127
          refine Xf rfl rfl rfl h683 rfl ?_
          exact wpo_nil ⟨rfl, hi1127⟩
         refine Xd rfl (fun w1129 hi1130 => ?_) ?_
         ·
          have hb1131 := low0 hb629 hi1130
          refine Xf rfl rfl rfl h683 rfl ?_
          exact wpo_nil ⟨rfl, hi1130⟩
         refine Xd rfl (fun w1132 hi1133 => ?_) ?_
         ·
          have hb1134 := low0 hb629 hi1133
          refine wpo_pickf (v := .bool false) rfl h683 rfl rfl ?_
          exact wpo_nil ⟨rfl, hi1133⟩
         refine Xd rfl (fun w1135 hi1136 => ?_) ?_
         ·
          have hb1137 := low0 hb629 hi1136
          refine wpo_move (v := .bool false) rfl rfl ?_
          exact wpo_nil ⟨rfl, hi1136⟩
         refine Xd rfl (fun w1138 hi1139 => ?_) ?_
         ·
          have hb1140 := low0 hb629 hi1139
          refine Xc rfl rfl rfl rfl ?_
          refine wpo_move (v := .slice (some ⟨B104, 0, none⟩) ms106.length cap105) e625 rfl ?_
          exact wpo_nil ⟨rfl, hi1139⟩
         refine Xd rfl (fun w1141 hi1142 => ?_) ?_
         ·
          have hb1143 := low0 hb629 hi1142
          refine Xc rfl rfl rfl rfl ?_
          refine wpo_move (v := .int .i64 (i : Int)) e628 rfl ?_
          exact wpo_nil ⟨rfl, hi1142⟩
         refine Xd rfl (fun w1144 hi1145 => ?_) ?_
         ·
          have hb1146 := low0 hb629 hi1145
          refine Xc rfl rfl rfl rfl ?_
          refine Xy Qe rfl rfl ha298 ho299 (by omega) (by omega) rfl ?_
          exact wpo_nil ⟨rfl, hi1145⟩
         refine Xd rfl (fun w1147 hi1148 => ?_) ?_
         ·
          have hb1149 := low0 hb629 hi1148
          refine Xc rfl rfl rfl rfl ?_
          refine wpo_fieldAddr (o' := o297 + 1) Jm rfl rfl rfl ?_
          exact wpo_nil ⟨rfl, hi1148⟩
         refine Xd rfl (fun w1150 hi1151 => ?_) ?_
         ·
          have hb1152 := low0 hb629 hi1151
          refine Xc rfl rfl rfl rfl ?_
          refine wpo_loadn (vs := [.int .i64 ((mAt ms106 i).t.lab.s), .int .i64 ((mAt ms106 i).t.lab.v)]) Yw rfl rfl (Yn (Yd hr300 (Xe hi624 hi1151)) 1 2 rfl) rfl ?_
          exact wpo_nil ⟨rfl, hi1151⟩
         refine Xd rfl (fun w1153 hi1154 => ?_) ?_
         ·
          have hb1155 := low0 hb629 hi1154
          refine Xc rfl rfl rfl rfl ?_
          have k1156 := ((k240.grown0 hi624).grown0 hi1154)
          refine wpo_loadn (vs := [.int .i64 l112.s, .int .i64 l112.v]) Yw e626 rfl (k1156.rangeL 0 2 rfl) rfl ?_
          exact wpo_nil ⟨rfl, hi1154⟩
         refine Xd rfl (fun w1157 hi1158 => ?_) ?_
         ·
          have hb1159 := low0 hb629 hi1158
          refine Xc rfl rfl rfl rfl ?_
          refine Xi (vs := [.agg #[.int .i64 ((mAt ms106 i).t.lab.s), .int .i64 ((mAt ms106 i).t.lab.v)], .agg #[.int .i64 l112.s, .int .i64 l112.v]]) H2 (Xb rfl (Xb rfl Xh)) rfl (Jw ((mAt ms106 i).t.lab) l112 _) ?_
          rintro _ w1160 ⟨rfl, hg1161⟩
          have hb1162 := low0 hb1159 hg1161
          exact wpo_nil ⟨rfl, (Xe hi1158 hg1161)⟩
         refine Xd rfl (fun w1163 hi1164 => ?_) ?_
         ·
          have hb1165 := low0 hb629 hi1164
          refine Xc rfl rfl rfl rfl ?_
          refine wpo_not (b' := !labelFlow ((mAt ms106 i).t.lab) l112) rfl rfl rfl ?_
          exact wpo_nil ⟨rfl, hi1164⟩
         refine Xd rfl (fun w1166 hi1167 => ?_) ?_
         ·
          have hb1168 := low0 hb629 hi1167
          refine Xc rfl rfl rfl rfl ?_
          refine wpo_move (v := .bool (!labelFlow ((mAt ms106 i).t.lab) l112)) rfl rfl ?_
          exact wpo_nil ⟨rfl, hi1167⟩
         refine Xd rfl (fun w1169 hi1170 => ?_) ?_
         ·
          have hb1171 := low0 hb629 hi1170
          refine Xc rfl rfl rfl (Yu h683) ?_
          refine wpo_move (v := .slice a124 us123.length cap125) e627 rfl ?_
          exact wpo_nil ⟨rfl, hi1170⟩
         refine Xd rfl (fun w1172 hi1173 => ?_) ?_
         ·
          have hb1174 := low0 hb629 hi1173
          refine Xc rfl rfl rfl (Yu h683) ?_
          refine wpo_move (v := .int .i64 (i : Int)) e628 rfl ?_
          exact wpo_nil ⟨rfl, hi1173⟩
         refine Xd rfl (fun w1175 hi1176 => ?_) ?_
         ·
          have hb1177 := low0 hb629 hi1176
          refine Xc rfl rfl rfl (Yu h683) ?_
          refine Xy Qe rfl rfl ha1057 ho1058 (by omega) (by omega) rfl ?_
          exact wpo_nil ⟨rfl, hi1176⟩
         refine Xd rfl (fun w1178 hi1179 => ?_) ?_
         ·
          have hb1180 := low0 hb629 hi1179
          refine Xc rfl rfl rfl (Yu h683) ?_
          refine wpo_loadn (vs := [.int .i64 ((mAt us123 i).t.kind), .int .i64 ((mAt us123 i).t.lab.s), .int .i64 ((mAt us123 i).t.lab.v), .int .i64 ((mAt us123 i).t.ve), .int .i64 ((mAt us123 i).t.num), .slice ((mAt us123 i).sa) ((mAt us123 i).t.slots.length) ((mAt us123 i).sc), .slice ((mAt us123 i).qa) ((mAt us123 i).t.queue.length) ((mAt us123 i).qc), .int .i64 ((mAt us123 i).t.to)]) Xx rfl rfl (Yn (Yd hr1059 hi1179) 0 8 rfl) rfl ?_
          exact wpo_nil ⟨rfl, hi1179⟩
         refine Xd rfl (fun w1181 hi1182 => ?_) ?_
         ·
          have hb1183 := low0 hb629 hi1182
          refine Xc rfl rfl rfl (Yu h683) ?_
          have k1184 := (ks20_B323.grown0 hi1182)
          refine wpo_loadn (vs := [.int .i64 q315.t.kind, .int .i64 q315.t.lab.s, .int .i64 q315.t.lab.v, .int .i64 q315.t.ve, .int .i64 q315.t.num, .slice q315.sa q315.t.slots.length q315.sc, .slice q315.qa q315.t.queue.length q315.qc, .int .i64 q315.t.to]) Xx e649 rfl (k1184.rangeL 0 8 rfl) rfl ?_
          exact wpo_nil ⟨rfl, hi1182⟩
         exact Jb
        ·
         intro w1185 hi1186
         have hb1187 := low0 hb629 hi1186
         refine Xc rfl rfl rfl (Yu h683) ?_
         refine Xi (vs := [.agg #[.int .i64 ((mAt us123 i).t.kind), .int .i64 ((mAt us123 i).t.lab.s), .int .i64 ((mAt us123 i).t.lab.v), .int .i64 ((mAt us123 i).t.ve), .int .i64 ((mAt us123 i).t.num), .slice ((mAt us123 i).sa) ((mAt us123 i).t.slots.length) ((mAt us123 i).sc), .slice ((mAt us123 i).qa) ((mAt us123 i).t.queue.length) ((mAt us123 i).qc), .int .i64 ((mAt us123 i).t.to)], .agg #[.int .i64 q315.t.kind, .int .i64 q315.t.lab.s, .int .i64 q315.t.lab.v, .int .i64 q315.t.ve, .int .i64 q315.t.num, .slice q315.sa q315.t.slots.length q315.sc, .slice q315.qa q315.t.queue.length q315.qc, .int .i64 q315.t.to]]) Sc (Xb rfl (Xb rfl Xh)) rfl (Ud (mAt us123 i) q315 _ (TabAt.th (TabAt.low hT127 (Xe (Xe (Xe hg206 hgl230) hi624) hi1186)) (Xz (show i < us123.length by omega))) (ThAt.low (hA318).th hi1186) ⟨by first | omega | exact Nat.le_of_ble_eq_true rfl | (simp only [List.length_nil, List.length_cons, List.length_append, List.length_replicate]; omega), by first | omega | exact Nat.le_of_ble_eq_true rfl | (simp only [List.length_nil, List.length_cons, List.length_append, List.length_replicate]; omega)⟩ ⟨by first | omega | exact Nat.le_of_ble_eq_true rfl | (simp only [List.length_nil, List.length_cons, List.length_append, List.length_replicate]; omega), by first | omega | exact Nat.le_of_ble_eq_true rfl | (simp only [List.length_nil, List.length_cons, List.length_append, List.length_replicate]; omega)⟩) ?_
         rintro _ w1188 ⟨rfl, hg1189⟩
         have hb1190 := low0 hb1187 hg1189
         refine Xc rfl rfl rfl (Yu h683) ?_
         refine wpo_not (b' := !(decide ((mAt us123 i).t = q315.t))) rfl rfl rfl ?_
         refine Xc rfl rfl rfl rfl ?_
         refine wpo_pickt (v := .bool (!(decide ((mAt us123 i).t = q315.t)))) rfl (Yu h683) rfl rfl ?_
         refine wpo_pickf (v := .bool (!(decide ((mAt us123 i).t = q315.t)))) rfl rfl rfl rfl ?_
         exact wpo_nil (Xs ⟨⟨e625, e626, e627, e628, (congrArg Value.bool (by first | (simp only [h101, h208, h224, h225, h226, h227, h228, h229, h241, h683, b0, b1, b2, b3, b4, b5, b6, b7, b8, b9]; done) | simp [h101, h208, h224, h225, h226, h227, h228, h229, h241, h683]))⟩, (Xe hi1186 hg1189)⟩)
      ·
       rintro f1191 w1192 ⟨⟨e1193, e1194, e1195, e1196, e1197⟩, hg1198⟩
       have hb1199 := low0 hb629 hg1198
       refine Xt e1197 (fun h1200 => ?_) (fun h1200 => ?_)
       ·
        refine Xa ?_
        refine wpo_assign (v := .bool false) rfl rfl ?_
        refine wpo_nil ?_
        refine Xl ?_
        refine Qi ?_
        refine Yb ?_
        refine Yb ?_
        refine Qi ?_
        refine Yb ?_
        refine ⟨.bool false, res1 rfl rfl, ?_, hb1199⟩
        exact (T6 he126 h227 h229 (show i < ms106.length by omega) hq317.symm h1200).elim
       ·
        have h1201 := J6 h1200
        have h1202 := J7 h1200
        refine Xm ?_
        refine Y3 ?_
        refine Xs ?_
        refine Xp ?_
        refine wpo_move (v := .int .i64 (i : Int)) e1196 rfl ?_
        refine wpo_add (c := (i : Int) + 1) rfl rfl (by omega) (by omega) (by omega) rfl ?_
        refine wpo_assign (v := .int .i64 ((i : Int) + 1)) rfl rfl ?_
        refine wpo_nil ?_
        refine Xs ?_
        have k1203 := ((k240.grown0 hi624).grown0 hg1198)
        exact ⟨ms106.length - (i + 1), by omega, (i + 1), rfl, (by omega), (low0 (low0 hgl230 hi624) hg1198), rfl, e1193, e1194, e1195, hb1199, k1203⟩
    ·
     have h1204 := of_decide_eq_false h241
     refine Yp ?_
     refine Yz ?_
     refine Yz ?_
     refine Jl ?_
     refine Xs ?_
     refine Xa ?_
     refine wpo_move (v := .slice a124 us123.length cap125) e239 rfl ?_
     refine wpo_len (by kernel_rfl) rfl rfl ?_
     refine wpo_move (v := .slice (some ⟨B104, 0, none⟩) ms106.length cap105) e237 rfl ?_
     refine wpo_len (by kernel_rfl) rfl rfl ?_
     refine wpo_eql (q := decide ((us123.length : Int) = (ms106.length : Int))) rfl rfl rfl rfl ?_
     refine wpo_assign (v := .bool (decide ((us123.length : Int) = (ms106.length : Int)))) rfl rfl ?_
     refine wpo_nil ?_
     refine Xl ?_
     refine ⟨.bool (decide ((us123.length : Int) = (ms106.length : Int))), res1 rfl rfl, ?_, hb234⟩
     exact congrArg Value.bool (decide_eq_true (by omega))
end Go.Dw.J
end
section
namespace Go.Dw
open Go.ChangeShapes Go.WideShapes Go.ChangeAt Go.RowKit Go.Deep
section
variable {H : Type} {enc : TypeId × Value → H} {P : Program} {w : World} {base : Nat} {spare : Nat → Bool} {held : Bool} {fuel : Nat} {cs : List Value} {x : DataW H × List MemPlace}
theorem Rw {α : Type} {g : α → List Value} {ok : α → Prop} {t e : TypeId} {sz : Nat} (ht : P.underlying t = some (.slice e)) (hc : P.cellsOf e = sz) (hz : 0 < sz) (hg : Wide g sz) (hrd : ∀ n cs x, DataW.trod enc P w base spare held n e cs = some x → ∃ a, cs = g a ∧ ok a)
    (h : DataW.trod enc P w base spare held fuel t cs = some x) :
    ∃ (a : Option Addr) (xs : List α) (c : Nat), cs = [.slice a xs.length c] ∧ xs.length ≤ c ∧ c ≤ maxLen ∧ SlAt w a sz (xs.map g) ∧ (∀ y ∈ xs, ok y) ∧ (a = none → c = 0) := by
  rcases open_slice ht h with ⟨rfl, _⟩ | ⟨a, len, cap, m, n, D, Pl, rfl, _, hl, hm, hmm, _, hi⟩
  · exact ⟨none, [], 0, rfl, Nat.le_refl _, Nat.zero_le _, fun k x hk => by simp at hk, fun y hy => by simp at hy, fun _ => rfl⟩
  · have hlm : len ≤ m := by
      rw [hmm]; split <;> omega
    have hex : ∀ i : Fin len, ∃ y : α, ok y ∧ ∀ j, j < sz → w.cell? (a.add (i.val * sz + j)) = (g y)[j]? := fun i => by
      obtain ⟨cs', hcs, htr⟩ := hi i.val (by omega)
      obtain ⟨y, rfl, hy⟩ := hrd _ _ _ htr
      rw [hc] at hcs
      obtain ⟨_, _, hat⟩ := World.cells?_some hcs
      refine ⟨y, hy, fun j hj => ?_⟩
      rw [← hat j hj, add_add]
    refine ⟨some a, List.ofFn fun i : Fin len => Classical.choose (hex i), cap, by simp, by simpa using hl, hm, fun k x hk => ?_, fun y hy => ?_, fun hn => by cases hn⟩
    · rw [List.getElem?_map] at hk
      cases hy : (List.ofFn fun i : Fin len => Classical.choose (hex i))[k]? with
      | none => rw [hy] at hk; simp at hk
      | some y =>
        rw [hy] at hk
        obtain rfl : g y = x := by simpa using hk
        have hkl : k < len := by
          have := (List.getElem?_eq_some_iff.1 hy).1
          simpa using this
        have hye : Classical.choose (hex ⟨k, hkl⟩) = y := by
          rw [List.getElem?_ofFn] at hy
          simpa [hkl] using hy
        have hat := (Classical.choose_spec (hex ⟨k, hkl⟩)).2
        rw [hye] at hat
        obtain ⟨b, o, spot⟩ := a
        have hspot : spot = none := by
          obtain ⟨y0, _, hy0⟩ := hex ⟨0, by omega⟩
          have h0 := hy0 0 hz
          obtain ⟨v, hv⟩ : ∃ v, (g y0)[0]? = some v := ⟨_, List.getElem?_eq_getElem (by rw [hg]; exact hz)⟩
          rw [hv] at h0
          have := World.cell?_spot h0
          simpa [Addr.add] using this
        subst hspot
        refine ⟨b, o, rfl, fun j v hj => ?_⟩
        have hjl : j < sz := by rw [← hg y]; exact (List.getElem?_eq_some_iff.1 hj).1
        rw [← hj, ← hat j hjl]
        simp only [Addr.add]
        split
        · rename_i he
          rw [show o + k * sz + j = o by omega]
        · rw [show o + (k * sz + j) = o + k * sz + j by omega]
    · obtain ⟨i, rfl⟩ := List.mem_ofFn.1 hy
      exact (Classical.choose_spec (hex i)).1
theorem C0 {α : Type} {g : α → List Value} {ok : α → Prop} {r : Reach} {b0 : Nat} {t e sz : Nat} {v : Value} {d : DataW H} {p : List MemPlace} (hs : P.underlying t = some (.slice e)) (hc : P.cellsOf e = sz) (hz : 0 < sz) (hg : Wide g sz)
    (hrd : ∀ n cs x, DataW.trod enc P w base spare held n e cs = some x → ∃ a, cs = g a ∧ ok a) (hv : Value.okWide P w r b0 t v) (h : DataW.Trod enc P w base spare held t v d p) :
    ∃ (a : Option Addr) (xs : List α) (c : Nat), v = .slice a xs.length c ∧ xs.length ≤ 9223372036854775807 ∧ xs.length ≤ c ∧ SlAt w a sz (xs.map g) ∧ ∀ y ∈ xs, ok y := by
  obtain ⟨a, len, cap, rfl⟩ := okWide_slice hs hv
  obtain ⟨fuel, hf⟩ := h
  obtain ⟨a', xs, c, h1, h2, h3, h4, h5, h7⟩ := Rw hs hc hz hg hrd hf
  have h6 : Value.slice a len cap = .slice a' xs.length c := by simpa [Value.cells] using h1
  refine ⟨a', xs, c, h6, ?_, h2, h4, h5⟩
  have : maxLen = 9223372036854775807 := by decide
  omega
theorem Ew {t : TypeId} (ht : P.underlying t = some (.int .u8)) (h : DataW.trod enc P w base spare held fuel t cs = some x) : ∃ n : Int, cs = bcell n ∧ (0 ≤ n ∧ n ≤ 255) := by
  obtain ⟨n, hn, _, hw⟩ := DataW.trod_int ht h
  refine ⟨n, hn, ?_⟩
  have h2 := Bool.and_eq_true_iff.1 hw
  have h3 := of_decide_eq_true h2.1
  have h4 := of_decide_eq_true h2.2
  exact ⟨h3, h4⟩
def Lab.wf (l : Lab) : Prop := (Lit.int .i64 l.s).wf = true ∧ (Lit.int .i64 l.v).wf = true
def Cl.wf (q : Cl) : Prop := (Lit.int .i64 q.kind).wf = true ∧ (Lit.int .i64 q.run).wf = true ∧ (Lit.int .i64 q.a).wf = true ∧ (Lit.int .i64 q.b).wf = true ∧ (Lit.int .i64 q.n).wf = true
theorem Ur (hl : laidOutB P = true) {W W' : World} (hb : Below W.heap.size W W') : ∀ (ts : List TypeId) (vs : List Value) (ds : List (DataW H)) (ps : List MemPlace), ts.all (fun t => P.readableRec t && decide (t < P.types.size)) = true →
    DataW.TrodAll enc P W 0 (fun _ => true) true ts vs ds ps → (∀ y ∈ ps, y.block < W.heap.size) → DataW.TrodAll enc P W' 0 (fun b => decide (b < W.heap.size)) true ts vs ds ps
  | [], _, _, _, _, h, _ => by
    obtain ⟨rfl, rfl, rfl⟩ := trodAll_nil h
    exact rfl
  | t :: ts, _, _, _, ht, h, hlt => by
    obtain ⟨v, vs, d, ds, p, q, rfl, rfl, rfl, h1, h2⟩ := trodAll_cons h
    simp only [List.all_cons, Bool.and_eq_true, decide_eq_true_eq] at ht
    exact ⟨p, q, Below.trod hl ht.1.1 ht.1.2 h1 hb fun y hy => hlt y (List.mem_append_left _ hy), Ur hl hb ts vs ds q ht.2 h2 fun y hy => hlt y (List.mem_append_right _ hy), rfl⟩
theorem Td {f : Func} {s : ChangeSpec} {apart handsOn : Bool} {W W' : World} {args : Array Value} {ds gs : List (DataW H)} {before pa : List MemPlace} {tb : TypeId} (hl : laidOutB P = true)
    (hr : f.params.toList.all (fun t => P.readableRec t && decide (t < P.types.size)) = true) (hW : DataW.Whole enc P f.params.toList s.vars apart W args.toList ds gs before)
    (hA : DataW.TrodAll enc P W 0 (fun _ => true) true f.params.toList args.toList ds pa) (hlt : ∀ y ∈ pa, y.block < W.heap.size) (hs : s.fn H (ds ++ gs) = { results := [.lit (.bool true)], args := ds }) (hv : s.vars = [])
    (hres : f.resultTypes = #[tb]) (htb : P.underlying tb = some .bool) (hb : Below W.heap.size W W') : s.post enc P f apart true handsOn false W args (.bool true) W' := by
  refine ⟨ds, gs, before, [], pa, [], hW, ?_, ?_, ?_, hb.frame _, fun h => by cases h⟩
  · rw [hs, hres]
    exact trodAll_mk1 (shut_bool htb _)
  · rw [hs]
    exact Ur hl hb _ _ _ _ hr hA hlt
  · rw [hs, hv]
    rfl
end
end Go.Dw
end
section
namespace Go.Dw.J
open Go.RowKit Go.Dw Go.Proofs
open Go.Conc (G solo)
set_option linter.unusedSectionVars false
set_option linter.unusedSimpArgs false
set_option linter.unusedVariables false
theorem Pr {o : Obj} (h : seeO o ≠ pz) : seeO o = o := by cases o <;> first | rfl | exact absurd rfl h
theorem Pp {W : World} : @Keep ⟨W.heap.size, W⟩ (seeAll W) W := by
  refine ⟨Nat.le_refl _, fun b hb => ?_⟩
  have hb' : b < W.heap.size := hb
  have e : W.heap[b]? = some W.heap[b] := Array.getElem?_eq_getElem hb'
  by_cases h : seeO W.heap[b] = pz
  · refine .inr ⟨fun hs => hs.2 ?_, rfl⟩
    rw [Ju, e, Option.map_some, h]
  · refine .inl ⟨⟨by simpa [seeAll] using hb', fun e2 => h ?_⟩, ?_⟩
    · rw [Ju, e, Option.map_some] at e2
      exact Option.some.inj e2
    · rw [Ju, e, Option.map_some, Pr h]
theorem seeAll_sl {W : World} {a : Option Addr} {sz : Nat} {xs : List (List Value)} (h : SlAt W a sz xs) : SlAt (seeAll W) a sz xs := fun k x hk => by
  obtain ⟨b, o, ha, hr⟩ := h k x hk
  exact ⟨b, o, ha, fun j v hj => Po (hr j v hj)⟩
theorem law_good {k : FuncId} {fn : Func} {c : Code} {n : Nat} {args : Array Value} {W : World} (hf : Try.prog.funcs[k]? = some fn) (hb : fn.body = some c) (hn : fn.ntmps = n) (hs : Nat.ble args.size n = true) (hin : Try.prog.inits.idxOf? k = none)
    (law : ∀ [Comp] [ViewRule], ViewRule.base ≤ (seeAll W).heap.size → Wpf Try.prog n (endQ Try.prog fn (fun v w' => v = .bool true ∧ (seeAll W).grownBy w' none)) c (f0 args) (seeAll W)) :
    Runs Try.prog (fun v W' => v = .bool true ∧ Below W.heap.size W { W' with tape := W.tape }) (solo (G (Frame.enter Try.prog k args .normal) []) W) #[] := by
  letI : KeepD := ⟨W.heap.size, W⟩
  have hsz : (seeAll W).heap.size = W.heap.size := by simp [seeAll]
  refine Rz Pp (Cn OKV okv hf hb hn hs hin (R := fun v w' => v = .bool true ∧ (seeAll W).grownBy w' none) (fun v A' w ⟨hv, hg⟩ hsee hk => ⟨hv, ?_⟩) (@law (comp0 OKV) viewRule (Nat.le_of_eq hsz.symm)))
  refine ⟨hsee.os.symm.trans hg.os, rfl, hsee.output.symm.trans hg.output, hk.1, fun b hb' => ?_⟩
  show w.heap[b]? = W.heap[b]?
  have e : W.heap[b]? = some W.heap[b] := Array.getElem?_eq_getElem hb'
  rcases hk.2 b hb' with ⟨h1, h2⟩ | ⟨_, h2⟩
  · have h3 := hg.block b (by rw [hsz]; exact hb') (by simp)
    rw [Ju, e, Option.map_some] at h3
    have h4 : seeO W.heap[b] ≠ pz := fun h => h1.2 (by rw [h3, h])
    rw [← h2, h3, Pr h4, e]
  · exact h2
end Go.Dw.J
namespace Go.Dw
theorem Tc {H : Type} {enc : TypeId × Value → H} {P : Program} {f : Func} {s : ChangeSpec} {apart fresh handsOn : Bool} {W W' : World} {args : Array Value} {v : Value} {tp : Tape} (h : s.post enc P f apart fresh handsOn false W args v { W' with tape := tp }) : s.post enc P f apart fresh handsOn false W args v W' := by
  obtain ⟨ds, gs, before, pr, pa, pv, h1, h2, h3, h4, h5, h6⟩ := h
  exact ⟨ds, gs, before, pr, pa, pv, h1, DataW.TrodAll.of_heap (w' := W') (by rfl) h2, DataW.TrodAll.of_heap (w' := W') (by rfl) h3, DataW.TrodVars.of_heap (w' := W') (by rfl) h4, h5, fun h => by cases h⟩
end Go.Dw
end
