/- Laws and walks: my templates, and what a program of mine (gen.py) printed out of the functions; only what the row reaches. -/
import Derived.Test.YtldnkinaedgnpaaVC5
section
namespace Go.Dw.J
open Go.RowKit Go.Dw Go.Proofs
set_option linter.unusedSectionVars false
set_option maxRecDepth 100000
set_option maxHeartbeats 4000000
set_option linter.unusedSimpArgs false
set_option linter.unusedVariables false
theorem law_FnViewAll [Comp] [ViewRule] (bs : List Int) (a : Option Addr) (c : Nat) (w : World) (hs0 : SlAt w a 1 (bs.map bcell)) (hb : ∀ b ∈ bs, 0 ≤ b ∧ b ≤ 255) (hn : bs.length ≤ 9223372036854775807) (hc : bs.length ≤ c) (m : Nat) (a2 : Option Addr) (c2 : Nat) (hm : m ≤ 9223372036854775807) (hKB : ViewRule.base ≤ w.heap.size) : Wpf Try.prog 86 (endQ Try.prog Try.f5 (fun v w' => v = .bool true ∧ w.grownBy w' none)) (Try.f5.body.getD .skip) (f0 #[.slice a bs.length c, .slice a2 m c2]) w := by
 have hb0 := World.grownBy.refl w none
 have hs := SlAt.lt wide_b (by omega) hs0
 refine wpf_seq_region ?_
 refine wpo_assign (v := .bool false) rfl rfl ?_
 refine wpo_nil ?_
 refine wpf_seq ?_
 refine wpf_seq_region_mid (fun f' w' => (f' 0 = .slice a bs.length c ∧ f' 1 = .slice a2 m c2 ∧ f' 4 = .bool false ∧ f' 18 = .bool ((decide (1048576 < (bs.length : Int))) || (decide (1048576 < (m : Int))))) ∧ w = w') ?_ ?_
 ·
  refine wpo_move (v := .slice a bs.length c) rfl rfl ?_
  refine wpo_len (by kernel_rfl) rfl rfl ?_
  refine wpo_gtr (q := decide (1048576 < (bs.length : Int))) rfl rfl rfl rfl ?_
  refine wpo_move (v := .bool (decide (1048576 < (bs.length : Int)))) rfl rfl ?_
  rcases bcases (decide (1048576 < (bs.length : Int))) with h101 | h101
  ·
   have h102 := of_decide_eq_true h101
   iterate 3 refine wpo_pass rfl rfl rfl h101 rfl ?_
   refine wpo_pickt (v := .bool true) rfl h101 rfl rfl ?_
   exact wpo_nil ⟨⟨rfl, rfl, rfl, (congrArg Value.bool (by first | (simp only [h101, b0, b1, b2, b3, b4, b5, b6, b7, b8, b9]; done) | simp [h101]))⟩, rfl⟩
  ·
   have h103 := of_decide_eq_false h101
   refine wpo_run rfl rfl rfl h101 ?_
   refine wpo_move (v := .slice a2 m c2) rfl rfl ?_
   refine wpo_run rfl rfl rfl h101 ?_
   refine wpo_len (by kernel_rfl) rfl rfl ?_
   refine wpo_run rfl rfl rfl h101 ?_
   refine wpo_gtr (q := decide (1048576 < (m : Int))) rfl rfl rfl rfl ?_
   refine wpo_pickf (v := .bool (decide (1048576 < (m : Int)))) rfl h101 rfl rfl ?_
   exact wpo_nil ⟨⟨rfl, rfl, rfl, (congrArg Value.bool (by first | (simp only [h101, b0, b1, b2, b3, b4, b5, b6, b7, b8, b9]; done) | simp [h101]))⟩, rfl⟩
 ·
  rintro f104 w105 ⟨⟨e106, e107, e108, e109⟩, rfl⟩
  refine wpf_cond e109 (fun h110 => ?_) (fun h110 => ?_)
  ·
   refine wpf_seq_region ?_
   refine wpo_assign (v := .bool true) rfl rfl ?_
   refine wpo_nil ?_
   refine wpf_ret ?_
   refine thn_r ?_
   refine ⟨.bool true, res1 rfl rfl, ?_, hb0⟩
   rfl
  ·
   have h111 := or_l h110
   have h112 := of_decide_eq_false h111
   have h113 := or_r h110
   have h114 := of_decide_eq_false h113
   refine wpf_skip ?_
   refine thn_n ?_
   refine wpf_seq_region ?_
   refine wpo_move (v := .slice a bs.length c) e106 rfl ?_
   refine wpo_call (vs := [.slice a bs.length c]) gf_11 (args_cons rfl args_nil) rfl (DrawViewOf_c bs a c _ (SlAt.low hs0 hb0) hb (by omega) (by omega)) ?_
   rintro _ w122 ⟨B115, cap116, ms117, l123, rfl, hTG118, hTS119, hTn120, hd124, hg121⟩
   have hb125 := low0 hb0 hg121
   have hTl126 := hTS119.len
   refine wpo_move (v := .tuple #[.slice (some ⟨B115, 0, none⟩) ms117.length cap116, .agg #[.int .i64 l123.s, .int .i64 l123.v]]) rfl rfl ?_
   refine wpo_extract (v := .slice (some ⟨B115, 0, none⟩) ms117.length cap116) rfl rfl rfl ?_
   refine wpo_extract (v := .agg #[.int .i64 l123.s, .int .i64 l123.v]) rfl rfl rfl ?_
   refine wpo_alloc (cs := #[.int .i64 0, .int .i64 0]) zt_25 rfl rfl ?_
   intro B127 w128 hN129
   have hlB127 := hN_ge hN129 hb125
   have hb130 := low0 hb125 hN129.grw
   refine wpo_assign (v := .slice (some ⟨B115, 0, none⟩) ms117.length cap116) rfl rfl ?_
   refine wpo_storen (vs := [.int .i64 l123.s, .int .i64 l123.v]) (cs' := #[.int .i64 l123.s, .int .i64 l123.v]) rt_25 rfl rfl rfl (by simp [Value.oneCell']) hN129.blk (Nat.le_of_ble_eq_true rfl) rfl ?_
   intro w131 hS132
   have hb133 := low1 hb130 hS132.grw (by omega)
   refine wpo_nil ?_
   refine wpf_seq_region ?_
   refine wpo_move (v := .slice (some ⟨B115, 0, none⟩) ms117.length cap116) rfl rfl ?_
   refine wpo_loadn (vs := [.int .i64 l123.s, .int .i64 l123.v]) rt_25 rfl rfl (hS132.blk.rangeL 0 2 rfl) rfl ?_
   refine wpo_call (vs := [.slice (some ⟨B115, 0, none⟩) ms117.length cap116, .agg #[.int .i64 l123.s, .int .i64 l123.v]]) gf_12 (args_cons rfl (args_cons rfl args_nil)) rfl (ViewRule.rule _ ms117 _ _ l123 (Nat.le_trans hKB hb133.size) (TabG.at (TabG.low hTG118 (low1 hN129.grw hS132.grw (Nat.le_trans ((World.grownBy.refl _ none)).size hN129.ge)))) hTl126 (by omega)) ?_
   rintro _ w141 ⟨us134, a135, cap136, rfl, he137, hT138, hnc139, hg140⟩
   have hb144 := low0 hb133 hg140
   have hTl142 := viewTab_lens he137 hTl126
   have hll143 := viewTab_le he137
   refine wpo_assign (v := .slice a135 us134.length cap136) rfl rfl ?_
   refine wpo_nil ?_
   refine wpf_seq ?_
   refine wpf_seq_region_mid (fun f' w' => (f' 1 = .slice a2 m c2 ∧ f' 4 = .bool false ∧ f' 5 = .slice (some ⟨B115, 0, none⟩) ms117.length cap116 ∧ f' 6 = .pointer (some ⟨B127, 0, none⟩) ∧ f' 7 = .slice a135 us134.length cap136 ∧ f' 42 = .bool ((false || (!tableOk (tabT ms117))) || (!labelOk l123))) ∧ w141.grownBy w' none) ?_ ?_
   ·
    refine wpo_move (v := .slice a135 us134.length cap136) rfl rfl ?_
    refine wpo_move (v := .slice (some ⟨B115, 0, none⟩) ms117.length cap116) rfl rfl ?_
    have k185 := (hS132.blk.grown0 hg140)
    refine wpo_loadn (vs := [.int .i64 l123.s, .int .i64 l123.v]) rt_25 rfl rfl (k185.rangeL 0 2 rfl) rfl ?_
    refine wpo_call (vs := [.slice (some ⟨B115, 0, none⟩) ms117.length cap116, .agg #[.int .i64 l123.s, .int .i64 l123.v]]) gf_14 (args_cons rfl (args_cons rfl args_nil)) rfl (sViewOf_c l123 _ ms117 _ _ (TabG.at (TabG.low hTG118 (low0 (low1 hN129.grw hS132.grw (Nat.le_trans ((World.grownBy.refl _ none)).size hN129.ge)) hg140))) hTl126 (by omega)) ?_
    rintro _ w193 ⟨us186, a187, cap188, rfl, he189, hT190, hnc191, hg192⟩
    have hb196 := low0 hb144 hg192
    have hTl194 := viewTab_lens he189 hTl126
    have hll195 := viewTab_le he189
    refine wpo_call (vs := [.slice a135 us134.length cap136, .slice a187 us186.length cap188]) gf_13 (args_cons rfl (args_cons rfl args_nil)) rfl (ldTable_c _ us134 us186 _ _ _ _ (TabAt.low hT138 hg192) hT190 hTl142 hTl194 (by omega) (by omega)) ?_
    rintro _ w197 ⟨rfl, hg198⟩
    have hb199 := low0 hb196 hg198
    refine wpo_not (b' := false) (congrArg Value.bool (decide_eq_true (he137.trans he189.symm))) rfl rfl ?_
    refine wpo_move (v := .bool false) rfl rfl ?_
    refine wpo_run rfl rfl rfl rfl ?_
    refine wpo_move (v := .slice (some ⟨B115, 0, none⟩) ms117.length cap116) rfl rfl ?_
    refine wpo_run rfl rfl rfl rfl ?_
    refine wpo_call (vs := [.slice (some ⟨B115, 0, none⟩) ms117.length cap116]) gf_15 (args_cons rfl args_nil) rfl (sTableOk_c  _ ms117 _ _ (TabG.at (TabG.low hTG118 (low0 (low0 (low0 (low1 hN129.grw hS132.grw (Nat.le_trans ((World.grownBy.refl _ none)).size hN129.ge)) hg140) hg192) hg198))) hTl126 (by omega)) ?_
    rintro _ w200 ⟨rfl, hg201⟩
    have hb202 := low0 hb199 hg201
    refine wpo_run rfl rfl rfl rfl ?_
    refine wpo_not (b' := !tableOk (tabT ms117)) rfl rfl rfl ?_
    refine wpo_pickf (v := .bool (!tableOk (tabT ms117))) rfl rfl rfl rfl ?_
    refine wpo_move (v := .bool (!tableOk (tabT ms117))) rfl rfl ?_
    rcases bcases (!tableOk (tabT ms117)) with h203 | h203
    ·
     have h204 := nt_t h203
     iterate 3 refine wpo_pass rfl rfl rfl h203 rfl ?_
     refine wpo_pickt (v := .bool true) rfl h203 rfl rfl ?_
     exact wpo_nil ⟨⟨e107, e108, rfl, rfl, rfl, (congrArg Value.bool (by first | (simp only [h110, h111, h113, h203, h204, b0, b1, b2, b3, b4, b5, b6, b7, b8, b9]; done) | simp [h110, h111, h113, h203, h204]))⟩, (grown_trans (grown_trans hg192 hg198) hg201)⟩
    ·
     have h205 := nt_f h203
     refine wpo_run rfl rfl rfl h203 ?_
     have k206 := (((k185.grown0 hg192).grown0 hg198).grown0 hg201)
     refine wpo_loadn (vs := [.int .i64 l123.s, .int .i64 l123.v]) rt_25 rfl rfl (k206.rangeL 0 2 rfl) rfl ?_
     refine wpo_run rfl rfl rfl h203 ?_
     refine wpo_call (vs := [.agg #[.int .i64 l123.s, .int .i64 l123.v]]) gf_16 (args_cons rfl args_nil) rfl (sLabelOk_c l123 _) ?_
     rintro _ w207 ⟨rfl, hg208⟩
     have hb209 := low0 hb202 hg208
     refine wpo_run rfl rfl rfl h203 ?_
     refine wpo_not (b' := !labelOk l123) rfl rfl rfl ?_
     refine wpo_pickf (v := .bool (!labelOk l123)) rfl h203 rfl rfl ?_
     exact wpo_nil ⟨⟨e107, e108, rfl, rfl, rfl, (congrArg Value.bool (by first | (simp only [h110, h111, h113, h203, h205, b0, b1, b2, b3, b4, b5, b6, b7, b8, b9]; done) | simp [h110, h111, h113, h203, h205]))⟩, (grown_trans (grown_trans (grown_trans hg192 hg198) hg201) hg208)⟩
   ·
    rintro f210 w211 ⟨⟨e212, e213, e214, e215, e216, e217⟩, hg218⟩
    have hb219 := low0 hb144 hg218
    refine wpf_cond e217 (fun h220 => ?_) (fun h220 => ?_)
    ·
     refine wpf_seq_region ?_
     refine wpo_move (v := .slice a135 us134.length cap136) e216 rfl ?_
     refine wpo_move (v := .slice (some ⟨B115, 0, none⟩) ms117.length cap116) e214 rfl ?_
     have k221 := ((hS132.blk.grown0 hg140).grown0 hg218)
     refine wpo_loadn (vs := [.int .i64 l123.s, .int .i64 l123.v]) rt_25 e215 rfl (k221.rangeL 0 2 rfl) rfl ?_
     refine wpo_call (vs := [.slice (some ⟨B115, 0, none⟩) ms117.length cap116, .agg #[.int .i64 l123.s, .int .i64 l123.v]]) gf_14 (args_cons rfl (args_cons rfl args_nil)) rfl (sViewOf_c l123 _ ms117 _ _ (TabG.at (TabG.low hTG118 (low0 (low0 (low1 hN129.grw hS132.grw (Nat.le_trans ((World.grownBy.refl _ none)).size hN129.ge)) hg140) hg218))) hTl126 (by omega)) ?_
     rintro _ w229 ⟨us222, a223, cap224, rfl, he225, hT226, hnc227, hg228⟩
     have hb232 := low0 hb219 hg228
     have hTl230 := viewTab_lens he225 hTl126
     have hll231 := viewTab_le he225
     refine wpo_call (vs := [.slice a135 us134.length cap136, .slice a223 us222.length cap224]) gf_13 (args_cons rfl (args_cons rfl args_nil)) rfl (ldTable_c _ us134 us222 _ _ _ _ (TabAt.low hT138 (grown_trans hg218 hg228)) hT226 hTl142 hTl230 (by omega) (by omega)) ?_
     rintro _ w233 ⟨rfl, hg234⟩
     have hb235 := low0 hb232 hg234
     refine wpo_assign (v := .bool true) (congrArg Value.bool (decide_eq_true (he137.trans he225.symm))) rfl ?_
     refine wpo_nil ?_
     refine wpf_ret ?_
     refine thn_r ?_
     refine ⟨.bool true, res1 rfl rfl, ?_, hb235⟩
     rfl
    ·
     have h236 := or_l h220
     have h237 := or_l h236
     have h238 := or_r h236
     have h239 := nt_f h238
     have h240 := or_r h220
     have h241 := nt_f h240
     refine wpf_skip ?_
     refine thn_n ?_
     refine wpf_seq ?_
     refine wpf_drawI (m := 6) [[], [], [1], [1, 2], [0, 1, 2, 3], [], [0, 1, 2, 3, 4, 5]] (fun S F w' => ∃ (B291 : Nat), w211.grownBy w' none ∧ F 1 = .slice a2 m c2 ∧ F 4 = .bool false ∧ F 5 = .slice (some ⟨B115, 0, none⟩) ms117.length cap116 ∧ F 6 = .pointer (some ⟨B127, 0, none⟩) ∧ F 7 = .slice a135 us134.length cap136 ∧ (S 5 = true → F 8 = .pointer (some ⟨B291, 0, none⟩) ∧ w.heap.size ≤ B291 ∧ Blk w' B291 25 #[.int .i64 0, .int .i64 0] ∧ B127 < B291 ∧ w211.heap.size ≤ B291) ∧ Vals S F [(0, 48, .agg #[.int .i64 l123.s, .int .i64 l123.v]), (1, 49, .slice a2 m c2), (2, 50, .int .i64 (m : Int)), (3, 51, .agg #[.int .i64 ((m : Int) % 4), .int .i64 ((m : Int) / 4 % 4)]), (4, 52, .agg #[.int .i64 ((lJoin l123 ⟨(m : Int) % 4, (m : Int) / 4 % 4⟩).s), .int .i64 ((lJoin l123 ⟨(m : Int) % 4, (m : Int) / 4 % 4⟩).v)])]) mixed_ (by kernel_rfl) ⟨0, grown_drew _, e212, e213, e214, e215, e216, not_begun, vals_0 _⟩ ?_ ?_
     ·
      refine preL_cons (fun S F w296 hS hbef hcl hI => ?_) ?_
      ·
       obtain ⟨B291, hi297, e298, e299, e300, e301, e302, c_5, hvs⟩ := hI
       have hb303 := low0 hb219 hi297
       have k304 := (((hS132.blk.grown0 hg140).grown0 hg218).grown0 hi297)
       refine wpo_loadn (vs := [.int .i64 l123.s, .int .i64 l123.v]) rt_25 e301 rfl (k304.rangeL 0 2 rfl) rfl ?_
       exact wpo_nil ⟨B291, hi297, e298, e299, e300, e301, e302, c_5, Vals.up 0 hvs rfl rfl rfl⟩
      refine preL_cons (fun S F w305 hS hbef hcl hI => ?_) ?_
      ·
       obtain ⟨B291, hi306, e307, e308, e309, e310, e311, c_5, hvs⟩ := hI
       have hb312 := low0 hb219 hi306
       refine wpo_move (v := .slice a2 m c2) e307 rfl ?_
       exact wpo_nil ⟨B291, hi306, e307, e308, e309, e310, e311, c_5, Vals.up 1 hvs rfl rfl rfl⟩
      refine preL_cons (fun S F w313 hS hbef hcl hI => ?_) ?_
      ·
       obtain ⟨B291, hi314, e315, e316, e317, e318, e319, c_5, hvs⟩ := hI
       have hb320 := low0 hb219 hi314
       have ev321 := Vals.at 1 hvs rfl (ready_of 1 hbef rfl)
       refine wpo_len (by kernel_rfl) ev321 rfl ?_
       exact wpo_nil ⟨B291, hi314, e315, e316, e317, e318, e319, c_5, Vals.up 2 hvs rfl rfl rfl⟩
      refine preL_cons (fun S F w322 hS hbef hcl hI => ?_) ?_
      ·
       obtain ⟨B291, hi323, e324, e325, e326, e327, e328, c_5, hvs⟩ := hI
       have hb329 := low0 hb219 hi323
       have ev330 := Vals.at 1 hvs rfl (ready_of 1 hbef rfl)
       have ev331 := Vals.at 2 hvs rfl (ready_of 2 hbef rfl)
       refine wpo_call (vs := [.int .i64 (m : Int)]) gf_23 (args_cons ev331 args_nil) rfl (ldLabel_c (m : Int) (by omega) _) ?_
       rintro _ w332 ⟨rfl, hg333⟩
       have hb334 := low0 hb329 hg333
       exact wpo_nil ⟨B291, (low0 hi323 hg333), e324, e325, e326, e327, e328, fun h => let ⟨y335, y336, y337, y338, y339⟩ := c_5 h; ⟨y335, y336, (y337).grown0 hg333, y338, y339⟩, Vals.up 3 hvs rfl rfl rfl⟩
      refine preL_cons (fun S F w340 hS hbef hcl hI => ?_) ?_
      ·
       obtain ⟨B291, hi341, e342, e343, e344, e345, e346, c_5, hvs⟩ := hI
       have hb347 := low0 hb219 hi341
       have ev348 := Vals.at 0 hvs rfl (ready_of 0 hbef rfl)
       have ev349 := Vals.at 1 hvs rfl (ready_of 1 hbef rfl)
       have ev350 := Vals.at 2 hvs rfl (ready_of 2 hbef rfl)
       have ev351 := Vals.at 3 hvs rfl (ready_of 3 hbef rfl)
       refine wpo_call (vs := [.agg #[.int .i64 l123.s, .int .i64 l123.v], .agg #[.int .i64 ((m : Int) % 4), .int .i64 ((m : Int) / 4 % 4)]]) gf_22 (args_cons ev348 (args_cons ev351 args_nil)) rfl (LabelJoin_c l123 ⟨(m : Int) % 4, (m : Int) / 4 % 4⟩ _) ?_
       rintro _ w352 ⟨rfl, hg353⟩
       have hb354 := low0 hb347 hg353
       exact wpo_nil ⟨B291, (low0 hi341 hg353), e342, e343, e344, e345, e346, fun h => let ⟨y355, y356, y357, y358, y359⟩ := c_5 h; ⟨y355, y356, (y357).grown0 hg353, y358, y359⟩, Vals.up 4 hvs rfl rfl rfl⟩
      refine preL_cons (fun S F w360 hS hbef hcl hI => ?_) ?_
      ·
       obtain ⟨B291, hi361, e362, e363, e364, e365, e366, c_5, hvs⟩ := hI
       have hb367 := low0 hb219 hi361
       refine wpo_alloc (cs := #[.int .i64 0, .int .i64 0]) zt_25 rfl rfl ?_
       intro B368 w369 hN370
       have hlB368 := hN_ge hN370 hb367
       have k371 := (((hS132.blk.grown0 hg140).grown0 hg218).grown0 hi361)
       have lt_B127_B368 := hN_gtl hN370 (k371).lt
       have hb372 := low0 hb367 hN370.grw
       exact wpo_nil ⟨B368, (low0 hi361 hN370.grw), e362, e363, e364, e365, e366, fun _ => ⟨rfl, hlB368, hN370.blk, lt_B127_B368, (Nat.le_trans hi361.size hN370.ge)⟩, Vals.keep hvs rfl⟩
      exact preL_nil
     ·
      intro S F w373 hall hI
      obtain ⟨B291, hi374, e375, e376, e377, e378, e379, c_5, hvs⟩ := hI
      have hb380 := low0 hb219 hi374
      have ev381 := Vals.at 0 hvs rfl (hall 0 (by decide))
      have ev382 := Vals.at 1 hvs rfl (hall 1 (by decide))
      have ev383 := Vals.at 2 hvs rfl (hall 2 (by decide))
      have ev384 := Vals.at 3 hvs rfl (hall 3 (by decide))
      have ev385 := Vals.at 4 hvs rfl (hall 4 (by decide))
      obtain ⟨e386, hlB291, kb_B291, lt_B127_B291, hk_B291⟩ := c_5 (hall 5 (by decide))
      refine wpo_storen (vs := [.int .i64 ((lJoin l123 ⟨(m : Int) % 4, (m : Int) / 4 % 4⟩).s), .int .i64 ((lJoin l123 ⟨(m : Int) % 4, (m : Int) / 4 % 4⟩).v)]) (cs' := #[.int .i64 ((lJoin l123 ⟨(m : Int) % 4, (m : Int) / 4 % 4⟩).s), .int .i64 ((lJoin l123 ⟨(m : Int) % 4, (m : Int) / 4 % 4⟩).v)]) rt_25 e386 ev385 rfl (by simp [Value.oneCell']) kb_B291 (Nat.le_of_ble_eq_true rfl) rfl ?_
      intro w387 hS388
      have hb389 := low1 hb380 hS388.grw (by omega)
      refine wpo_nil ?_
      refine thn_n ?_
      refine wpf_seq_region ?_
      refine wpo_move (v := .slice (some ⟨B115, 0, none⟩) ms117.length cap116) e377 rfl ?_
      refine wpo_loadn (vs := [.int .i64 ((lJoin l123 ⟨(m : Int) % 4, (m : Int) / 4 % 4⟩).s), .int .i64 ((lJoin l123 ⟨(m : Int) % 4, (m : Int) / 4 % 4⟩).v)]) rt_25 e386 rfl (hS388.blk.rangeL 0 2 rfl) rfl ?_
      refine wpo_call (vs := [.slice (some ⟨B115, 0, none⟩) ms117.length cap116, .agg #[.int .i64 ((lJoin l123 ⟨(m : Int) % 4, (m : Int) / 4 % 4⟩).s), .int .i64 ((lJoin l123 ⟨(m : Int) % 4, (m : Int) / 4 % 4⟩).v)]]) gf_12 (args_cons rfl (args_cons rfl args_nil)) rfl (ViewRule.rule _ ms117 _ _ (lJoin l123 ⟨(m : Int) % 4, (m : Int) / 4 % 4⟩) (Nat.le_trans hKB hb389.size) (TabG.at (TabG.low hTG118 (low1 (low0 (low0 (low0 (low1 hN129.grw hS132.grw (Nat.le_trans ((World.grownBy.refl _ none)).size hN129.ge)) hg140) hg218) hi374) hS388.grw (Nat.le_trans ((low0 (low0 (low1 hN129.grw hS132.grw (Nat.le_trans ((World.grownBy.refl _ none)).size hN129.ge)) hg140) hg218)).size hk_B291)))) hTl126 (by omega)) ?_
      rintro _ w397 ⟨us390, a391, cap392, rfl, he393, hT394, hnc395, hg396⟩
      have hb400 := low0 hb389 hg396
      have hTl398 := viewTab_lens he393 hTl126
      have hll399 := viewTab_le he393
      refine wpo_assign (v := .slice a391 us390.length cap392) rfl rfl ?_
      refine wpo_nil ?_
      refine wpf_seq ?_
      refine wpf_seq_region ?_
      refine wpo_assign (v := .int .i64 0) rfl rfl ?_
      refine wpo_nil ?_
      refine wpf_block ?_
      have k402 := (((((hS132.blk.grown0 hg140).grown0 hg218).grown0 hi374).gn hS388.grw).grown0 hg396)
      refine wpf_loopN (fun mm f' w' => ∃ (i : Nat), mm = ms117.length - i ∧ i ≤ ms117.length ∧ w397.grownBy w' none ∧ f' 10 = .int .i64 (i : Int) ∧ f' 5 = .slice (some ⟨B115, 0, none⟩) ms117.length cap116 ∧ f' 6 = .pointer (some ⟨B127, 0, none⟩) ∧ f' 7 = .slice a135 us134.length cap136 ∧ f' 9 = .slice a391 us390.length cap392 ∧ w.grownBy w' none ∧ Blk w' B127 25 #[.int .i64 l123.s, .int .i64 l123.v]) (ms117.length - 0) ⟨0, rfl, (Nat.zero_le _), (World.grownBy.refl _ none), rfl, e377, e378, e379, rfl, hb400, k402⟩ ?_
      rintro mm f403 w404 ⟨i, hm406, hi, hgl401, e407, e408, e409, e410, e411, hb405, k412⟩
      have heq := viewTab_eqlen he137 h239 h241
      have heq2 := viewTab_eqlen he393 h239 join_ok
      refine wpf_seq ?_
      refine wpf_seq_region ?_
      refine wpo_move (v := .int .i64 (i : Int)) e407 rfl ?_
      refine wpo_move (v := .slice (some ⟨B115, 0, none⟩) ms117.length cap116) e408 rfl ?_
      refine wpo_len (by kernel_rfl) rfl rfl ?_
      refine wpo_lss (q := decide ((i : Int) < (ms117.length : Int))) rfl rfl rfl rfl ?_
      refine wpo_nil ?_
      refine wpf_cond rfl (fun h413 => ?_) (fun h413 => ?_)
      ·
       have h414 := of_decide_eq_true h413
       refine wpf_skip ?_
       refine thn_n ?_
       refine wpf_seq ?_
       refine wpf_block ?_
       refine wpf_seq_mid (fun f' w' => (f' 5 = .slice (some ⟨B115, 0, none⟩) ms117.length cap116 ∧ f' 6 = .pointer (some ⟨B127, 0, none⟩) ∧ f' 7 = .slice a135 us134.length cap136 ∧ f' 9 = .slice a391 us390.length cap392 ∧ f' 10 = .int .i64 (i : Int) ∧ f' 80 = .bool (labelFlow ((mAt ms117 i).t.lab) l123 && (!(decide ((mAt us390 i).t = (mAt us134 i).t))))) ∧ w404.grownBy w' none) ?_ ?_
       ·
        rcases bcases (labelFlow ((mAt ms117 i).t.lab) l123) with h472 | h472
        ·
         obtain ⟨b508, q509, o510, ha511, ho512, hr513⟩ := SlAt.at (TabG.at (TabG.low hTG118 (low0 (low0 (low1 (low0 (low0 (low0 (low1 hN129.grw hS132.grw (Nat.le_trans ((World.grownBy.refl _ none)).size hN129.ge)) hg140) hg218) hi374) hS388.grw (Nat.le_trans ((low0 (low0 (low1 hN129.grw hS132.grw (Nat.le_trans ((World.grownBy.refl _ none)).size hN129.ge)) hg140) hg218)).size hk_B291)) hg396) hgl401))).1 (map_get (mAt_get (show i < ms117.length by omega)))
         have hle514 := TabLen.at hTl126 (mAt_get (show i < ms117.length by omega))
         obtain ⟨b520, q521, o522, ha523, ho524, hr525⟩ := SlAt.at (TabAt.low hT394 hgl401).1 (map_get (mAt_get (show i < us390.length by omega)))
         have hle526 := TabLen.at hTl398 (mAt_get (show i < us390.length by omega))
         obtain ⟨b529, q530, o531, ha532, ho533, hr534⟩ := SlAt.at (TabAt.low hT138 (low0 (low0 (low1 (low0 hg218 hi374) hS388.grw (Nat.le_trans (hg218).size hk_B291)) hg396) hgl401)).1 (map_get (mAt_get (show i < us134.length by omega)))
         have hle535 := TabLen.at hTl142 (mAt_get (show i < us134.length by omega))
         refine wpf_draw (m := 16) (vals := [(62, .slice (some ⟨B115, 0, none⟩) ms117.length cap116), (63, .int .i64 (i : Int)), (64, .pointer (some ⟨b508, o510, none⟩)), (65, .pointer (some ⟨b508, o510 + 1, none⟩)), (66, .agg #[.int .i64 ((mAt ms117 i).t.lab.s), .int .i64 ((mAt ms117 i).t.lab.v)]), (67, .agg #[.int .i64 l123.s, .int .i64 l123.v]), (68, .bool (labelFlow ((mAt ms117 i).t.lab) l123)), (69, .bool (labelFlow ((mAt ms117 i).t.lab) l123)), (70, .slice a391 us390.length cap392), (71, .int .i64 (i : Int)), (72, .pointer (some ⟨b520, o522, none⟩)), (73, .agg #[.int .i64 ((mAt us390 i).t.kind), .int .i64 ((mAt us390 i).t.lab.s), .int .i64 ((mAt us390 i).t.lab.v), .int .i64 ((mAt us390 i).t.ve), .int .i64 ((mAt us390 i).t.num), .slice ((mAt us390 i).sa) ((mAt us390 i).t.slots.length) ((mAt us390 i).sc), .slice ((mAt us390 i).qa) ((mAt us390 i).t.queue.length) ((mAt us390 i).qc), .int .i64 ((mAt us390 i).t.to)]), (74, .slice a135 us134.length cap136), (75, .int .i64 (i : Int)), (76, .pointer (some ⟨b529, o531, none⟩)), (77, .agg #[.int .i64 ((mAt us134 i).t.kind), .int .i64 ((mAt us134 i).t.lab.s), .int .i64 ((mAt us134 i).t.lab.v), .int .i64 ((mAt us134 i).t.ve), .int .i64 ((mAt us134 i).t.num), .slice ((mAt us134 i).sa) ((mAt us134 i).t.slots.length) ((mAt us134 i).sc), .slice ((mAt us134 i).qa) ((mAt us134 i).t.queue.length) ((mAt us134 i).qc), .int .i64 ((mAt us134 i).t.to)])]) (fun w' => w404.grownBy w' none) mixed_ (by kernel_rfl) (grown_drew _) ?_ ?_
         ·
          refine yll_cons rfl (fun w542 hi543 => ?_) ?_
          ·
           have hb544 := low0 hb405 hi543
           refine wpo_move (v := .slice (some ⟨B115, 0, none⟩) ms117.length cap116) e408 rfl ?_
           exact wpo_nil ⟨rfl, hi543⟩
          refine yll_cons rfl (fun w545 hi546 => ?_) ?_
          ·
           have hb547 := low0 hb405 hi546
           refine wpo_move (v := .int .i64 (i : Int)) e407 rfl ?_
           exact wpo_nil ⟨rfl, hi546⟩
          refine yll_cons rfl (fun w548 hi549 => ?_) ?_
          ·
           have hb550 := low0 hb405 hi549
           refine wpo_indexE es_23 rfl rfl ha511 ho512 (by omega) (by omega) rfl ?_
           exact wpo_nil ⟨rfl, hi549⟩
          refine yll_cons rfl (fun w551 hi552 => ?_) ?_
          ·
           have hb553 := low0 hb405 hi552
           refine wpo_fieldAddr (o' := o510 + 1) fo_35_1 rfl rfl rfl ?_
           exact wpo_nil ⟨rfl, hi552⟩
          refine yll_cons rfl (fun w554 hi555 => ?_) ?_
          ·
           have hb556 := low0 hb405 hi555
           refine wpo_loadn (vs := [.int .i64 ((mAt ms117 i).t.lab.s), .int .i64 ((mAt ms117 i).t.lab.v)]) rt_25 rfl rfl (range_sub (range_low hr513 hi555) 1 2 rfl) rfl ?_
           exact wpo_nil ⟨rfl, hi555⟩
          refine yll_cons rfl (fun w557 hi558 => ?_) ?_
          ·
           have hb559 := low0 hb405 hi558
           have k560 := (k412.grown0 hi558)
           refine wpo_loadn (vs := [.int .i64 l123.s, .int .i64 l123.v]) rt_25 e409 rfl (k560.rangeL 0 2 rfl) rfl ?_
           exact wpo_nil ⟨rfl, hi558⟩
          refine yll_cons rfl (fun w561 hi562 => ?_) ?_
          ·
           have hb563 := low0 hb405 hi562
           refine wpo_call (vs := [.agg #[.int .i64 ((mAt ms117 i).t.lab.s), .int .i64 ((mAt ms117 i).t.lab.v)], .agg #[.int .i64 l123.s, .int .i64 l123.v]]) gf_18 (args_cons rfl (args_cons rfl args_nil)) rfl (LabelFlow_c ((mAt ms117 i).t.lab) l123 _) ?_
           rintro _ w564 ⟨rfl, hg565⟩
           have hb566 := low0 hb563 hg565
           exact wpo_nil ⟨rfl, (grown_trans hi562 hg565)⟩
          refine yll_cons rfl (fun w567 hi568 => ?_) ?_
          ·
           have hb569 := low0 hb405 hi568
           refine wpo_move (v := .bool (labelFlow ((mAt ms117 i).t.lab) l123)) rfl rfl ?_
           exact wpo_nil ⟨rfl, hi568⟩
          refine yll_cons rfl (fun w570 hi571 => ?_) ?_
          ·
           have hb572 := low0 hb405 hi571
           refine wpo_run rfl rfl rfl h472 ?_
           refine wpo_move (v := .slice a391 us390.length cap392) e411 rfl ?_
           exact wpo_nil ⟨rfl, hi571⟩
          refine yll_cons rfl (fun w573 hi574 => ?_) ?_
          ·
           have hb575 := low0 hb405 hi574
           refine wpo_run rfl rfl rfl h472 ?_
           refine wpo_move (v := .int .i64 (i : Int)) e407 rfl ?_
           exact wpo_nil ⟨rfl, hi574⟩
          refine yll_cons rfl (fun w576 hi577 => ?_) ?_
          ·
           have hb578 := low0 hb405 hi577
           refine wpo_run rfl rfl rfl h472 ?_
           refine wpo_indexE es_23 rfl rfl ha523 ho524 (by omega) (by omega) rfl ?_
           exact wpo_nil ⟨rfl, hi577⟩
          refine yll_cons rfl (fun w579 hi580 => ?_) ?_
          ·
           have hb581 := low0 hb405 hi580
           refine wpo_run rfl rfl rfl h472 ?_
           refine wpo_loadn (vs := [.int .i64 ((mAt us390 i).t.kind), .int .i64 ((mAt us390 i).t.lab.s), .int .i64 ((mAt us390 i).t.lab.v), .int .i64 ((mAt us390 i).t.ve), .int .i64 ((mAt us390 i).t.num), .slice ((mAt us390 i).sa) ((mAt us390 i).t.slots.length) ((mAt us390 i).sc), .slice ((mAt us390 i).qa) ((mAt us390 i).t.queue.length) ((mAt us390 i).qc), .int .i64 ((mAt us390 i).t.to)]) rt_35 rfl rfl (range_sub (range_low hr525 hi580) 0 8 rfl) rfl ?_
           exact wpo_nil ⟨rfl, hi580⟩
          refine yll_cons rfl (fun w582 hi583 => ?_) ?_
          ·
           have hb584 := low0 hb405 hi583
           refine wpo_run rfl rfl rfl h472 ?_
           refine wpo_move (v := .slice a135 us134.length cap136) e410 rfl ?_
           exact wpo_nil ⟨rfl, hi583⟩
          refine yll_cons rfl (fun w585 hi586 => ?_) ?_
          ·
           have hb587 := low0 hb405 hi586
           refine wpo_run rfl rfl rfl h472 ?_
           refine wpo_move (v := .int .i64 (i : Int)) e407 rfl ?_
           exact wpo_nil ⟨rfl, hi586⟩
          refine yll_cons rfl (fun w588 hi589 => ?_) ?_
          ·
           have hb590 := low0 hb405 hi589
           refine wpo_run rfl rfl rfl h472 ?_
           refine wpo_indexE es_23 rfl rfl ha532 ho533 (by omega) (by omega) rfl ?_
           exact wpo_nil ⟨rfl, hi589⟩
          refine yll_cons rfl (fun w591 hi592 => ?_) ?_
          ·
           have hb593 := low0 hb405 hi592
           refine wpo_run rfl rfl rfl h472 ?_
           refine wpo_loadn (vs := [.int .i64 ((mAt us134 i).t.kind), .int .i64 ((mAt us134 i).t.lab.s), .int .i64 ((mAt us134 i).t.lab.v), .int .i64 ((mAt us134 i).t.ve), .int .i64 ((mAt us134 i).t.num), .slice ((mAt us134 i).sa) ((mAt us134 i).t.slots.length) ((mAt us134 i).sc), .slice ((mAt us134 i).qa) ((mAt us134 i).t.queue.length) ((mAt us134 i).qc), .int .i64 ((mAt us134 i).t.to)]) rt_35 rfl rfl (range_sub (range_low hr534 hi592) 0 8 rfl) rfl ?_
           exact wpo_nil ⟨rfl, hi592⟩
          exact yll_nil
         ·
          intro w594 hi595
          have hb596 := low0 hb405 hi595
          refine wpo_run rfl rfl rfl h472 ?_
          refine wpo_call (vs := [.agg #[.int .i64 ((mAt us390 i).t.kind), .int .i64 ((mAt us390 i).t.lab.s), .int .i64 ((mAt us390 i).t.lab.v), .int .i64 ((mAt us390 i).t.ve), .int .i64 ((mAt us390 i).t.num), .slice ((mAt us390 i).sa) ((mAt us390 i).t.slots.length) ((mAt us390 i).sc), .slice ((mAt us390 i).qa) ((mAt us390 i).t.queue.length) ((mAt us390 i).qc), .int .i64 ((mAt us390 i).t.to)], .agg #[.int .i64 ((mAt us134 i).t.kind), .int .i64 ((mAt us134 i).t.lab.s), .int .i64 ((mAt us134 i).t.lab.v), .int .i64 ((mAt us134 i).t.ve), .int .i64 ((mAt us134 i).t.num), .slice ((mAt us134 i).sa) ((mAt us134 i).t.slots.length) ((mAt us134 i).sc), .slice ((mAt us134 i).qa) ((mAt us134 i).t.queue.length) ((mAt us134 i).qc), .int .i64 ((mAt us134 i).t.to)]]) gf_19 (args_cons rfl (args_cons rfl args_nil)) rfl (ldThing_c (mAt us390 i) (mAt us134 i) _ (TabAt.th (TabAt.low hT394 (grown_trans hgl401 hi595)) (mAt_get (show i < us390.length by omega))) (TabAt.th (TabAt.low hT138 (low0 (low0 (low0 (low1 (low0 hg218 hi374) hS388.grw (Nat.le_trans (hg218).size hk_B291)) hg396) hgl401) hi595)) (mAt_get (show i < us134.length by omega))) ⟨by first | omega | exact Nat.le_of_ble_eq_true rfl | (simp only [List.length_nil, List.length_cons, List.length_append, List.length_replicate]; omega), by first | omega | exact Nat.le_of_ble_eq_true rfl | (simp only [List.length_nil, List.length_cons, List.length_append, List.length_replicate]; omega)⟩ ⟨by first | omega | exact Nat.le_of_ble_eq_true rfl | (simp only [List.length_nil, List.length_cons, List.length_append, List.length_replicate]; omega), by first | omega | exact Nat.le_of_ble_eq_true rfl | (simp only [List.length_nil, List.length_cons, List.length_append, List.length_replicate]; omega)⟩) ?_
          rintro _ w597 ⟨rfl, hg598⟩
          have hb599 := low0 hb596 hg598
          refine wpo_run rfl rfl rfl h472 ?_
          refine wpo_not (b' := !(decide ((mAt us390 i).t = (mAt us134 i).t))) rfl rfl rfl ?_
          refine wpo_pickt (v := .bool (!(decide ((mAt us390 i).t = (mAt us134 i).t)))) rfl h472 rfl rfl ?_
          exact wpo_nil (thn_n ⟨⟨e408, e409, e410, e411, e407, (congrArg Value.bool (by first | (simp only [h110, h111, h113, h220, h236, h237, h238, h239, h240, h241, h413, h472, b0, b1, b2, b3, b4, b5, b6, b7, b8, b9]; done) | simp [h110, h111, h113, h220, h236, h237, h238, h239, h240, h241, h413, h472]))⟩, (grown_trans hi595 hg598)⟩)
        ·
         obtain ⟨b614, q615, o616, ha617, ho618, hr619⟩ := SlAt.at (TabG.at (TabG.low hTG118 (low0 (low0 (low1 (low0 (low0 (low0 (low1 hN129.grw hS132.grw (Nat.le_trans ((World.grownBy.refl _ none)).size hN129.ge)) hg140) hg218) hi374) hS388.grw (Nat.le_trans ((low0 (low0 (low1 hN129.grw hS132.grw (Nat.le_trans ((World.grownBy.refl _ none)).size hN129.ge)) hg140) hg218)).size hk_B291)) hg396) hgl401))).1 (map_get (mAt_get (show i < ms117.length by omega)))
         have hle620 := TabLen.at hTl126 (mAt_get (show i < ms117.length by omega))
         refine wpf_draw (m := 16) (vals := [(62, .slice (some ⟨B115, 0, none⟩) ms117.length cap116), (63, .int .i64 (i : Int)), (64, .pointer (some ⟨b614, o616, none⟩)), (65, .pointer (some ⟨b614, o616 + 1, none⟩)), (66, .agg #[.int .i64 ((mAt ms117 i).t.lab.s), .int .i64 ((mAt ms117 i).t.lab.v)]), (67, .agg #[.int .i64 l123.s, .int .i64 l123.v]), (68, .bool (labelFlow ((mAt ms117 i).t.lab) l123)), (69, .bool (labelFlow ((mAt ms117 i).t.lab) l123)), (70, undef), (71, undef), (72, undef), (73, undef), (74, undef), (75, undef), (76, undef), (77, undef)]) (fun w' => w404.grownBy w' none) mixed_ (by kernel_rfl) (grown_drew _) ?_ ?_
         ·
          refine yll_cons rfl (fun w627 hi628 => ?_) ?_
          ·
           have hb629 := low0 hb405 hi628
           refine wpo_move (v := .slice (some ⟨B115, 0, none⟩) ms117.length cap116) e408 rfl ?_
           exact wpo_nil ⟨rfl, hi628⟩
          refine yll_cons rfl (fun w630 hi631 => ?_) ?_
          ·
           have hb632 := low0 hb405 hi631
           refine wpo_move (v := .int .i64 (i : Int)) e407 rfl ?_
           exact wpo_nil ⟨rfl, hi631⟩
          refine yll_cons rfl (fun w633 hi634 => ?_) ?_
          ·
           have hb635 := low0 hb405 hi634
           refine wpo_indexE es_23 rfl rfl ha617 ho618 (by omega) (by omega) rfl ?_
           exact wpo_nil ⟨rfl, hi634⟩
          refine yll_cons rfl (fun w636 hi637 => ?_) ?_
          ·
           have hb638 := low0 hb405 hi637
           refine wpo_fieldAddr (o' := o616 + 1) fo_35_1 rfl rfl rfl ?_
           exact wpo_nil ⟨rfl, hi637⟩
          refine yll_cons rfl (fun w639 hi640 => ?_) ?_
          ·
           have hb641 := low0 hb405 hi640
           refine wpo_loadn (vs := [.int .i64 ((mAt ms117 i).t.lab.s), .int .i64 ((mAt ms117 i).t.lab.v)]) rt_25 rfl rfl (range_sub (range_low hr619 hi640) 1 2 rfl) rfl ?_
           exact wpo_nil ⟨rfl, hi640⟩
          refine yll_cons rfl (fun w642 hi643 => ?_) ?_
          ·
           have hb644 := low0 hb405 hi643
           have k645 := (k412.grown0 hi643)
           refine wpo_loadn (vs := [.int .i64 l123.s, .int .i64 l123.v]) rt_25 e409 rfl (k645.rangeL 0 2 rfl) rfl ?_
           exact wpo_nil ⟨rfl, hi643⟩
          refine yll_cons rfl (fun w646 hi647 => ?_) ?_
          ·
           have hb648 := low0 hb405 hi647
           refine wpo_call (vs := [.agg #[.int .i64 ((mAt ms117 i).t.lab.s), .int .i64 ((mAt ms117 i).t.lab.v)], .agg #[.int .i64 l123.s, .int .i64 l123.v]]) gf_18 (args_cons rfl (args_cons rfl args_nil)) rfl (LabelFlow_c ((mAt ms117 i).t.lab) l123 _) ?_
           rintro _ w649 ⟨rfl, hg650⟩
           have hb651 := low0 hb648 hg650
           exact wpo_nil ⟨rfl, (grown_trans hi647 hg650)⟩
          refine yll_cons rfl (fun w652 hi653 => ?_) ?_
          ·
           have hb654 := low0 hb405 hi653
           refine wpo_move (v := .bool (labelFlow ((mAt ms117 i).t.lab) l123)) rfl rfl ?_
           exact wpo_nil ⟨rfl, hi653⟩
          refine yll_cons rfl (fun w655 hi656 => ?_) ?_
          ·
           have hb657 := low0 hb405 hi656
           refine wpo_pass rfl rfl rfl h472 rfl ?_
           exact wpo_nil ⟨rfl, hi656⟩
          refine yll_cons rfl (fun w658 hi659 => ?_) ?_
          ·
           have hb660 := low0 hb405 hi659
           refine wpo_pass rfl rfl rfl h472 rfl ?_
           exact wpo_nil ⟨rfl, hi659⟩
          refine yll_cons rfl (fun w661 hi662 => ?_) ?_
          ·
           have hb663 := low0 hb405 hi662
           refine wpo_pass rfl rfl rfl h472 rfl ?_
           exact wpo_nil ⟨rfl, hi662⟩
          refine yll_cons rfl (fun w664 hi665 => ?_) ?_
          ·
           have hb666 := low0 hb405 hi665
           refine wpo_pass rfl rfl rfl h472 rfl ?_
           exact wpo_nil ⟨rfl, hi665⟩
          refine yll_cons rfl (fun w667 hi668 => ?_) ?_
          ·
           have hb669 := low0 hb405 hi668
           refine wpo_pass rfl rfl rfl h472 rfl ?_
           exact wpo_nil ⟨rfl, hi668⟩
          refine yll_cons rfl (fun w670 hi671 => ?_) ?_
          ·
           have hb672 := low0 hb405 hi671
           refine wpo_pass rfl rfl rfl h472 rfl ?_
           exact wpo_nil ⟨rfl, hi671⟩
          refine yll_cons rfl (fun w673 hi674 => ?_) ?_
          ·
           have hb675 := low0 hb405 hi674
           refine wpo_pass rfl rfl rfl h472 rfl ?_
           exact wpo_nil ⟨rfl, hi674⟩
          refine yll_cons rfl (fun w676 hi677 => ?_) ?_
          ·
           have hb678 := low0 hb405 hi677
           refine wpo_pass rfl rfl rfl h472 rfl ?_
           exact wpo_nil ⟨rfl, hi677⟩
          exact yll_nil
         ·
          intro w679 hi680
          have hb681 := low0 hb405 hi680
          refine wpo_pass rfl rfl rfl h472 rfl ?_
          refine wpo_pass rfl rfl rfl h472 rfl ?_
          refine wpo_pickf (v := .bool false) rfl h472 rfl rfl ?_
          exact wpo_nil (thn_n ⟨⟨e408, e409, e410, e411, e407, (congrArg Value.bool (by first | (simp only [h110, h111, h113, h220, h236, h237, h238, h239, h240, h241, h413, h472, b0, b1, b2, b3, b4, b5, b6, b7, b8, b9]; done) | simp [h110, h111, h113, h220, h236, h237, h238, h239, h240, h241, h413, h472]))⟩, hi680⟩)
       ·
        rintro f682 w683 ⟨⟨e684, e685, e686, e687, e688, e689⟩, hg690⟩
        have hb691 := low0 hb405 hg690
        refine wpf_cond e689 (fun h692 => ?_) (fun h692 => ?_)
        ·
         have h693 := and_l h692
         have h694 := and_r h692
         have h695 := nt_t h694
         have h696 := of_decide_eq_false h695
         refine wpf_seq_region ?_
         refine wpo_assign (v := .bool false) rfl rfl ?_
         refine wpo_nil ?_
         refine wpf_ret ?_
         refine blk_r ?_
         refine thn_r ?_
         refine thn_r ?_
         refine blk_r ?_
         refine thn_r ?_
         refine ⟨.bool false, res1 rfl rfl, ?_, hb691⟩
         exact (viewAll_no he137 he393 h239 h241 (labelOk_mod m) (show i < ms117.length by omega) h692).elim
        ·
         refine wpf_skip ?_
         refine blk_n ?_
         refine thn_n ?_
         refine wpf_region ?_
         refine wpo_move (v := .int .i64 (i : Int)) e688 rfl ?_
         refine wpo_add (c := (i : Int) + 1) rfl rfl (by omega) (by omega) (by omega) rfl ?_
         refine wpo_assign (v := .int .i64 ((i : Int) + 1)) rfl rfl ?_
         refine wpo_nil ?_
         refine thn_n ?_
         have k697 := (k412.grown0 hg690)
         exact ⟨ms117.length - (i + 1), by omega, (i + 1), rfl, (by omega), (low0 hgl401 hg690), rfl, e684, e685, e686, e687, hb691, k697⟩
      ·
       have h698 := of_decide_eq_false h413
       refine wpf_exit ?_
       refine thn_e ?_
       refine thn_e ?_
       refine blk_e ?_
       refine thn_n ?_
       refine wpf_seq_region ?_
       refine wpo_move (v := .slice (some ⟨B115, 0, none⟩) ms117.length cap116) e408 rfl ?_
       refine wpo_build (ps := [(0, .int .i64 3)]) (v := .agg #[.int .i64 3, .int .i64 0]) (parts_cons rfl parts_nil) (fun _ => by kernel_rfl) rfl ?_
       refine wpo_call (vs := [.slice (some ⟨B115, 0, none⟩) ms117.length cap116, .agg #[.int .i64 3, .int .i64 0]]) gf_12 (args_cons rfl (args_cons rfl args_nil)) rfl (ViewRule.rule _ ms117 _ _ ⟨3, 0⟩ (Nat.le_trans hKB hb405.size) (TabG.at (TabG.low hTG118 (low0 (low0 (low1 (low0 (low0 (low0 (low1 hN129.grw hS132.grw (Nat.le_trans ((World.grownBy.refl _ none)).size hN129.ge)) hg140) hg218) hi374) hS388.grw (Nat.le_trans ((low0 (low0 (low1 hN129.grw hS132.grw (Nat.le_trans ((World.grownBy.refl _ none)).size hN129.ge)) hg140) hg218)).size hk_B291)) hg396) hgl401))) hTl126 (by omega)) ?_
       rintro _ w706 ⟨us699, a700, cap701, rfl, he702, hT703, hnc704, hg705⟩
       have hb709 := low0 hb405 hg705
       have hTl707 := viewTab_lens he702 hTl126
       have hll708 := viewTab_le he702
       refine wpo_move (v := .slice (some ⟨B115, 0, none⟩) ms117.length cap116) e408 rfl ?_
       refine wpo_call (vs := [.slice a700 us699.length cap701, .slice (some ⟨B115, 0, none⟩) ms117.length cap116]) gf_13 (args_cons rfl (args_cons rfl args_nil)) rfl (ldTable_c _ us699 ms117 _ _ _ _ hT703 (TabG.at (TabG.low hTG118 (low0 (low0 (low0 (low1 (low0 (low0 (low0 (low1 hN129.grw hS132.grw (Nat.le_trans ((World.grownBy.refl _ none)).size hN129.ge)) hg140) hg218) hi374) hS388.grw (Nat.le_trans ((low0 (low0 (low1 hN129.grw hS132.grw (Nat.le_trans ((World.grownBy.refl _ none)).size hN129.ge)) hg140) hg218)).size hk_B291)) hg396) hgl401) hg705))) hTl707 hTl126 (by omega) (by omega)) ?_
       rintro _ w710 ⟨rfl, hg711⟩
       have hb712 := low0 hb709 hg711
       refine wpo_assign (v := .bool (decide (tabT us699 = tabT ms117))) rfl rfl ?_
       refine wpo_nil ?_
       refine wpf_ret ?_
       refine ⟨.bool (decide (tabT us699 = tabT ms117)), res1 rfl rfl, ?_, hb712⟩
       exact congrArg Value.bool (decide_eq_true (viewTab_top he702 h239))
end Go.Dw.J
end
section
namespace Go.Dw
open Go.ChangeShapes Go.WideShapes Go.ChangeAt Go.RowKit Go.Deep
section
variable {H : Type} {enc : TypeId × Value → H} {P : Program} {w : World} {base : Nat} {spare : Nat → Bool} {held : Bool} {fuel : Nat} {cs : List Value} {x : DataW H × List MemPlace}
theorem read_slice {α : Type} {g : α → List Value} {ok : α → Prop} {t e : TypeId} {sz : Nat} (ht : P.underlying t = some (.slice e)) (hc : P.cellsOf e = sz) (hz : 0 < sz) (hg : Wide g sz) (hrd : ∀ n cs x, DataW.trod enc P w base spare held n e cs = some x → ∃ a, cs = g a ∧ ok a)
    (h : DataW.trod enc P w base spare held fuel t cs = some x) :
    ∃ (a : Option Addr) (xs : List α) (c : Nat), cs = [.slice a xs.length c] ∧ xs.length ≤ c ∧ c ≤ maxLen ∧ SlAt w a sz (xs.map g) ∧ (∀ y ∈ xs, ok y) ∧ (a = none → c = 0) := by
  rcases open_slice ht h with ⟨rfl, _⟩ | ⟨a, len, cap, m, n, D, Pl, rfl, _, hl, hm, hmm, _, hi⟩
  · exact ⟨none, [], 0, rfl, Nat.le_refl _, Nat.zero_le _, fun k x hk => by simp at hk, fun y hy => by simp at hy, fun _ => rfl⟩
  · have hlm : len ≤ m := by
      rw [hmm]; split <;> omega
    have hex : ∀ i : Fin len, ∃ y : α, ok y ∧ ∀ j, j < sz → w.cell? (a.add (i.val * sz + j)) = (g y)[j]? := fun i => by
      obtain ⟨cs', hcs, htr⟩ := hi i.val (by omega)
      obtain ⟨y, rfl, hy⟩ := hrd _ _ _ htr
      rw [hc] at hcs
      obtain ⟨_, _, hat⟩ := World.cells?_some hcs
      refine ⟨y, hy, fun j hj => ?_⟩
      rw [← hat j hj, add_add]
    refine ⟨some a, List.ofFn fun i : Fin len => Classical.choose (hex i), cap, by simp, by simpa using hl, hm, fun k x hk => ?_, fun y hy => ?_, fun hn => by cases hn⟩
    · rw [List.getElem?_map] at hk
      cases hy : (List.ofFn fun i : Fin len => Classical.choose (hex i))[k]? with
      | none => rw [hy] at hk; simp at hk
      | some y =>
        rw [hy] at hk
        obtain rfl : g y = x := by simpa using hk
        have hkl : k < len := by
          have := (List.getElem?_eq_some_iff.1 hy).1
          simpa using this
        have hye : Classical.choose (hex ⟨k, hkl⟩) = y := by
          rw [List.getElem?_ofFn] at hy
          simpa [hkl] using hy
        have hat := (Classical.choose_spec (hex ⟨k, hkl⟩)).2
        rw [hye] at hat
        obtain ⟨b, o, spot⟩ := a
        have hspot : spot = none := by
          obtain ⟨y0, _, hy0⟩ := hex ⟨0, by omega⟩
          have h0 := hy0 0 hz
          obtain ⟨v, hv⟩ : ∃ v, (g y0)[0]? = some v := ⟨_, List.getElem?_eq_getElem (by rw [hg]; exact hz)⟩
          rw [hv] at h0
          have := World.cell?_spot h0
          simpa [Addr.add] using this
        subst hspot
        refine ⟨b, o, rfl, fun j v hj => ?_⟩
        have hjl : j < sz := by rw [← hg y]; exact (List.getElem?_eq_some_iff.1 hj).1
        rw [← hj, ← hat j hjl]
        simp only [Addr.add]
        split
        · rename_i he
          rw [show o + k * sz + j = o by omega]
        · rw [show o + (k * sz + j) = o + k * sz + j by omega]
    · obtain ⟨i, rfl⟩ := List.mem_ofFn.1 hy
      exact (Classical.choose_spec (hex i)).1
theorem open_sl {α : Type} {g : α → List Value} {ok : α → Prop} {r : Reach} {b0 : Nat} {t e sz : Nat} {v : Value} {d : DataW H} {p : List MemPlace} (hs : P.underlying t = some (.slice e)) (hc : P.cellsOf e = sz) (hz : 0 < sz) (hg : Wide g sz)
    (hrd : ∀ n cs x, DataW.trod enc P w base spare held n e cs = some x → ∃ a, cs = g a ∧ ok a) (hv : Value.okWide P w r b0 t v) (h : DataW.Trod enc P w base spare held t v d p) :
    ∃ (a : Option Addr) (xs : List α) (c : Nat), v = .slice a xs.length c ∧ xs.length ≤ 9223372036854775807 ∧ xs.length ≤ c ∧ SlAt w a sz (xs.map g) ∧ ∀ y ∈ xs, ok y := by
  obtain ⟨a, len, cap, rfl⟩ := okWide_slice hs hv
  obtain ⟨fuel, hf⟩ := h
  obtain ⟨a', xs, c, h1, h2, h3, h4, h5, h7⟩ := read_slice hs hc hz hg hrd hf
  have h6 : Value.slice a len cap = .slice a' xs.length c := by simpa [Value.cells] using h1
  refine ⟨a', xs, c, h6, ?_, h2, h4, h5⟩
  have : maxLen = 9223372036854775807 := by decide
  omega
theorem read_b {t : TypeId} (ht : P.underlying t = some (.int .u8)) (h : DataW.trod enc P w base spare held fuel t cs = some x) : ∃ n : Int, cs = bcell n ∧ (0 ≤ n ∧ n ≤ 255) := by
  obtain ⟨n, hn, _, hw⟩ := DataW.trod_int ht h
  refine ⟨n, hn, ?_⟩
  have h2 := Bool.and_eq_true_iff.1 hw
  have h3 := of_decide_eq_true h2.1
  have h4 := of_decide_eq_true h2.2
  exact ⟨h3, h4⟩
def Lab.wf (l : Lab) : Prop := (Lit.int .i64 l.s).wf = true ∧ (Lit.int .i64 l.v).wf = true
def Cl.wf (q : Cl) : Prop := (Lit.int .i64 q.kind).wf = true ∧ (Lit.int .i64 q.run).wf = true ∧ (Lit.int .i64 q.a).wf = true ∧ (Lit.int .i64 q.b).wf = true ∧ (Lit.int .i64 q.n).wf = true
theorem trodAll_below (hl : laidOutB P = true) {W W' : World} (hb : Below W.heap.size W W') : ∀ (ts : List TypeId) (vs : List Value) (ds : List (DataW H)) (ps : List MemPlace), ts.all (fun t => P.readableRec t && decide (t < P.types.size)) = true →
    DataW.TrodAll enc P W 0 (fun _ => true) true ts vs ds ps → (∀ y ∈ ps, y.block < W.heap.size) → DataW.TrodAll enc P W' 0 (fun b => decide (b < W.heap.size)) true ts vs ds ps
  | [], _, _, _, _, h, _ => by
    obtain ⟨rfl, rfl, rfl⟩ := trodAll_nil h
    exact rfl
  | t :: ts, _, _, _, ht, h, hlt => by
    obtain ⟨v, vs, d, ds, p, q, rfl, rfl, rfl, h1, h2⟩ := trodAll_cons h
    simp only [List.all_cons, Bool.and_eq_true, decide_eq_true_eq] at ht
    exact ⟨p, q, Below.trod hl ht.1.1 ht.1.2 h1 hb fun y hy => hlt y (List.mem_append_left _ hy), trodAll_below hl hb ts vs ds q ht.2 h2 fun y hy => hlt y (List.mem_append_right _ hy), rfl⟩
theorem post_true {f : Func} {s : ChangeSpec} {apart handsOn : Bool} {W W' : World} {args : Array Value} {ds gs : List (DataW H)} {before pa : List MemPlace} {tb : TypeId} (hl : laidOutB P = true)
    (hr : f.params.toList.all (fun t => P.readableRec t && decide (t < P.types.size)) = true) (hW : DataW.Whole enc P f.params.toList s.vars apart W args.toList ds gs before)
    (hA : DataW.TrodAll enc P W 0 (fun _ => true) true f.params.toList args.toList ds pa) (hlt : ∀ y ∈ pa, y.block < W.heap.size) (hs : s.fn H (ds ++ gs) = { results := [.lit (.bool true)], args := ds }) (hv : s.vars = [])
    (hres : f.resultTypes = #[tb]) (htb : P.underlying tb = some .bool) (hb : Below W.heap.size W W') : s.post enc P f apart true handsOn false W args (.bool true) W' := by
  refine ⟨ds, gs, before, [], pa, [], hW, ?_, ?_, ?_, hb.frame _, fun h => by cases h⟩
  · rw [hs, hres]
    exact trodAll_mk1 (shut_bool htb _)
  · rw [hs]
    exact trodAll_below hl hb _ _ _ _ hr hA hlt
  · rw [hs, hv]
    rfl
end
end Go.Dw
end
section
namespace Go.Dw.J
open Go.RowKit Go.Dw Go.Proofs
open Go.Conc (G solo)
set_option linter.unusedSectionVars false
set_option linter.unusedSimpArgs false
set_option linter.unusedVariables false
theorem seeO_not {o : Obj} (h : seeO o ≠ pz) : seeO o = o := by cases o <;> first | rfl | exact absurd rfl h
theorem seeAll_keep {W : World} : @Keep ⟨W.heap.size, W⟩ (seeAll W) W := by
  refine ⟨Nat.le_refl _, fun b hb => ?_⟩
  have hb' : b < W.heap.size := hb
  have e : W.heap[b]? = some W.heap[b] := Array.getElem?_eq_getElem hb'
  by_cases h : seeO W.heap[b] = pz
  · refine .inr ⟨fun hs => hs.2 ?_, rfl⟩
    rw [seeAll_get, e, Option.map_some, h]
  · refine .inl ⟨⟨by simpa [seeAll] using hb', fun e2 => h ?_⟩, ?_⟩
    · rw [seeAll_get, e, Option.map_some] at e2
      exact Option.some.inj e2
    · rw [seeAll_get, e, Option.map_some, seeO_not h]
theorem seeAll_sl {W : World} {a : Option Addr} {sz : Nat} {xs : List (List Value)} (h : SlAt W a sz xs) : SlAt (seeAll W) a sz xs := fun k x hk => by
  obtain ⟨b, o, ha, hr⟩ := h k x hk
  exact ⟨b, o, ha, fun j v hj => seeAll_cell (hr j v hj)⟩
theorem law_good {k : FuncId} {fn : Func} {c : Code} {n : Nat} {args : Array Value} {W : World} (hf : Try.prog.funcs[k]? = some fn) (hb : fn.body = some c) (hn : fn.ntmps = n) (hs : Nat.ble args.size n = true) (hin : Try.prog.inits.idxOf? k = none)
    (law : ∀ [Comp] [ViewRule], ViewRule.base ≤ (seeAll W).heap.size → Wpf Try.prog n (endQ Try.prog fn (fun v w' => v = .bool true ∧ (seeAll W).grownBy w' none)) c (f0 args) (seeAll W)) :
    Runs Try.prog (fun v W' => v = .bool true ∧ Below W.heap.size W { W' with tape := W.tape }) (solo (G (Frame.enter Try.prog k args .normal) []) W) #[] := by
  letI : KeepD := ⟨W.heap.size, W⟩
  have hsz : (seeAll W).heap.size = W.heap.size := by simp [seeAll]
  refine runs_start seeAll_keep (bes_top OKV okv hf hb hn hs hin (R := fun v w' => v = .bool true ∧ (seeAll W).grownBy w' none) (fun v A' w ⟨hv, hg⟩ hsee hk => ⟨hv, ?_⟩) (@law (comp0 OKV) viewRule (Nat.le_of_eq hsz.symm)))
  refine ⟨hsee.os.symm.trans hg.os, rfl, hsee.output.symm.trans hg.output, hk.1, fun b hb' => ?_⟩
  show w.heap[b]? = W.heap[b]?
  have e : W.heap[b]? = some W.heap[b] := Array.getElem?_eq_getElem hb'
  rcases hk.2 b hb' with ⟨h1, h2⟩ | ⟨_, h2⟩
  · have h3 := hg.block b (by rw [hsz]; exact hb') (by simp)
    rw [seeAll_get, e, Option.map_some] at h3
    have h4 : seeO W.heap[b] ≠ pz := fun h => h1.2 (by rw [h3, h])
    rw [← h2, h3, seeO_not h4, e]
  · exact h2
end Go.Dw.J
namespace Go.Dw
theorem post_tape {H : Type} {enc : TypeId × Value → H} {P : Program} {f : Func} {s : ChangeSpec} {apart fresh handsOn : Bool} {W W' : World} {args : Array Value} {v : Value} {tp : Tape} (h : s.post enc P f apart fresh handsOn false W args v { W' with tape := tp }) : s.post enc P f apart fresh handsOn false W args v W' := by
  obtain ⟨ds, gs, before, pr, pa, pv, h1, h2, h3, h4, h5, h6⟩ := h
  exact ⟨ds, gs, before, pr, pa, pv, h1, DataW.TrodAll.of_heap (w' := W') (by rfl) h2, DataW.TrodAll.of_heap (w' := W') (by rfl) h3, DataW.TrodVars.of_heap (w' := W') (by rfl) h4, h5, fun h => by cases h⟩
end Go.Dw
end
