/- Walks, printed by a program of mine (gen.py) out of the functions. -/
import Derived.Test.YtemimomfjapgiaaDoorS
namespace Go.Proofs.YtemimomfjapgiaaDoor
open Go.RowKit Go.Dw
set_option maxRecDepth 100000
set_option maxHeartbeats 4000000
set_option linter.unusedSimpArgs false
set_option linter.unusedVariables false
theorem es_22 : elemSz Tryd.prog 22 = some 1 := by kernel_rfl
theorem es_29 : elemSz Tryd.prog 29 = some 1 := by kernel_rfl
theorem fo_56_0 : fieldOff Tryd.prog 56 0 = some 0 := by kernel_rfl
theorem fo_56_1 : fieldOff Tryd.prog 56 1 = some 1 := by kernel_rfl
theorem gf_26 : goFn Tryd.prog 26 = true := by kernel_rfl
theorem ot_22 : oneTy Tryd.prog 22 = true := by kernel_rfl
theorem ot_5 : oneTy Tryd.prog 5 = true := by kernel_rfl
theorem zt_39 : zeroTy Tryd.prog 39 = some (.agg #[.int .i64 0, .int .i64 0, .bool false, .bool false, .bool false]) := by kernel_rfl
theorem pick_c (p n : Int) (hp : 0 ≤ p ∧ p ≤ 1099511627776) (lo R : Nat) (bs : List Int) (a : Option Addr) (c : Nat) (w : World) (hR : Blk w R 56 #[.slice a bs.length c, .int .i64 p]) (hlo : lo ≤ R) (hs : SlLt lo w a 1 (bs.map bcell)) (hb : ∀ b ∈ bs, 0 ≤ b ∧ b ≤ 255) (hn : bs.length ≤ 1048576) : CallsR Tryd.prog 26 #[.pointer (some ⟨R, 0, none⟩), .int .i64 n] w (fun v w' => ∃ k : Int, v = .int .i64 k ∧ 0 ≤ k ∧ (k < n ∨ k = 0) ∧ Blk w' R 56 #[.slice a bs.length c, .int .i64 (p + 1)] ∧ w.grownBy w' (some R)) := by
 refine calls_of_wpf (n := 99) Tryd.func26 rfl Tryd.ntmps26 rfl ?_
 have hb0 := World.grownBy.refl w (some R)
 have hRlt := hR.lt
 refine wpf_seq_region ?_
 refine wpo_assign (v := .int .i64 0) rfl rfl ?_
 refine wpo_nil ?_
 refine wpf_seq_region ?_
 refine wpo_move (v := .pointer (some ⟨R, 0, none⟩)) rfl rfl ?_
 refine wpo_move (v := .pointer (some ⟨R, 0, none⟩)) rfl rfl ?_
 refine wpo_nilCheck rfl rfl ?_
 refine wpo_fieldAddr (o' := 1) fo_56_1 rfl rfl rfl ?_
 refine wpo_load1 (v := .int .i64 p) ot_3 rfl (hR.cell rfl) rfl ?_
 refine wpo_add (c := p + 1) rfl rfl (by omega) (by omega) (by omega) rfl ?_
 refine wpo_nilCheck rfl rfl ?_
 refine wpo_fieldAddr (o' := 1) fo_56_1 rfl rfl rfl ?_
 refine wpo_store1 (v := .int .i64 (p + 1)) (cs' := #[.slice a bs.length c, .int .i64 (p + 1)]) ot_3 rfl rfl rfl hR (Nat.le_of_ble_eq_true rfl) rfl ?_
 intro w101 hS102
 have hb103 := grown_trans hb0 hS102.grw
 refine wpo_nil ?_
 refine wpf_seq ?_
 refine wpf_seq_region_mid (fun f' w' => (f' 0 = .pointer (some ⟨R, 0, none⟩) ∧ f' 1 = .int .i64 n ∧ f' 4 = .int .i64 0 ∧ f' 24 = .bool ((decide (n < 1)) || (decide ((bs.length : Int) = 0)))) ∧ w101 = w') ?_ ?_
 ·
  refine wpo_move (v := .int .i64 n) rfl rfl ?_
  refine wpo_lss (q := decide (n < 1)) rfl rfl rfl rfl ?_
  refine wpo_move (v := .bool (decide (n < 1))) rfl rfl ?_
  rcases bcases (decide (n < 1)) with h104 | h104
  ·
   have h105 := of_decide_eq_true h104
   iterate 6 refine wpo_pass rfl rfl rfl h104 rfl ?_
   refine wpo_pickt (v := .bool true) rfl h104 rfl rfl ?_
   exact wpo_nil ⟨⟨rfl, rfl, rfl, (congrArg Value.bool (by first | (simp only [h104, b0, b1, b2, b3, b4, b5, b6, b7, b8, b9]; done) | simp [h104]))⟩, rfl⟩
  ·
   have h106 := of_decide_eq_false h104
   refine wpo_run rfl rfl rfl h104 ?_
   refine wpo_move (v := .pointer (some ⟨R, 0, none⟩)) rfl rfl ?_
   refine wpo_run rfl rfl rfl h104 ?_
   refine wpo_nilCheck rfl rfl ?_
   refine wpo_run rfl rfl rfl h104 ?_
   refine wpo_fieldAddr (o' := 0) fo_56_0 rfl rfl rfl ?_
   refine wpo_run rfl rfl rfl h104 ?_
   refine wpo_load1 (v := .slice a bs.length c) ot_22 rfl (hS102.blk.cell rfl) rfl ?_
   refine wpo_run rfl rfl rfl h104 ?_
   refine wpo_len (by kernel_rfl) rfl rfl ?_
   refine wpo_run rfl rfl rfl h104 ?_
   refine wpo_eql (q := decide ((bs.length : Int) = 0)) rfl rfl rfl rfl ?_
   refine wpo_pickf (v := .bool (decide ((bs.length : Int) = 0))) rfl h104 rfl rfl ?_
   exact wpo_nil ⟨⟨rfl, rfl, rfl, (congrArg Value.bool (by first | (simp only [h104, b0, b1, b2, b3, b4, b5, b6, b7, b8, b9]; done) | simp [h104]))⟩, rfl⟩
 ·
  rintro f107 w108 ⟨⟨e109, e110, e111, e112⟩, rfl⟩
  refine wpf_cond e112 (fun h113 => ?_) (fun h113 => ?_)
  ·
   refine wpf_seq_region ?_
   refine wpo_assign (v := .int .i64 0) rfl rfl ?_
   refine wpo_nil ?_
   refine wpf_ret ?_
   refine thn_r ?_
   refine ⟨.int .i64 0, res1 rfl rfl, 0, rfl, by omega, by omega, hS102.blk, hb103⟩
  ·
   have h114 := or_l h113
   have h115 := of_decide_eq_false h114
   have h116 := or_r h113
   have h117 := of_decide_eq_false h116
   refine wpf_skip ?_
   refine thn_n ?_
   refine wpf_seq_region ?_
   refine wpo_move (v := .pointer (some ⟨R, 0, none⟩)) e109 rfl ?_
   refine wpo_nilCheck rfl rfl ?_
   refine wpo_fieldAddr (o' := 1) fo_56_1 rfl rfl rfl ?_
   refine wpo_load1 (v := .int .i64 (p + 1)) ot_3 rfl (hS102.blk.cell rfl) rfl ?_
   refine wpo_sub (c := (p + 1) - 1) rfl rfl (by omega) (by omega) (by omega) rfl ?_
   refine wpo_assign (v := .int .i64 ((p + 1) - 1)) rfl rfl ?_
   refine wpo_nil ?_
   refine wpf_seq ?_
   refine wpf_seq_region ?_
   refine wpo_move (v := .int .i64 ((p + 1) - 1)) rfl rfl ?_
   refine wpo_move (v := .pointer (some ⟨R, 0, none⟩)) e109 rfl ?_
   refine wpo_nilCheck rfl rfl ?_
   refine wpo_fieldAddr (o' := 0) fo_56_0 rfl rfl rfl ?_
   refine wpo_load1 (v := .slice a bs.length c) ot_22 rfl (hS102.blk.cell rfl) rfl ?_
   refine wpo_len (by kernel_rfl) rfl rfl ?_
   refine wpo_lss (q := decide ((p + 1) - 1 < (bs.length : Int))) rfl rfl rfl rfl ?_
   refine wpo_nil ?_
   refine wpf_cond rfl (fun h118 => ?_) (fun h118 => ?_)
   ·
    have h119 := of_decide_eq_true h118
    refine wpf_seq_region ?_
    refine wpo_move (v := .pointer (some ⟨R, 0, none⟩)) e109 rfl ?_
    refine wpo_nilCheck rfl rfl ?_
    refine wpo_fieldAddr (o' := 0) fo_56_0 rfl rfl rfl ?_
    refine wpo_load1 (v := .slice a bs.length c) ot_22 rfl (hS102.blk.cell rfl) rfl ?_
    refine wpo_move (v := .int .i64 ((p + 1) - 1)) rfl rfl ?_
    obtain ⟨x120, hx121⟩ := get_lt (l := bs) (i := ((p + 1) - 1).toNat) (by omega)
    obtain ⟨b122, q123, o124, ha125, ho126, hne128, hr127⟩ := SlLt.at hs (map_get hx121)
    have hbd129 := hb x120 (List.mem_of_getElem? hx121)
    refine wpo_indexE es_22 rfl rfl ha125 ho126 (by omega) (by omega) rfl ?_
    refine wpo_load1 (v := .int .u8 x120) ot_5 rfl ((range_grown hr127 hb103 (some_ne (by omega))) 0 _ rfl) rfl ?_
    refine wpo_conv (P := Tryd.prog) (k' := .i64) rfl (by kernel_rfl) (by kernel_rfl) (conv_i64 (by omega) (by omega)) rfl ?_
    refine wpo_move (v := .int .i64 n) e110 rfl ?_
    have hr130 := Int.emod_nonneg x120 (show n ≠ 0 by omega)
    have hr131 := Int.emod_lt_of_pos x120 (show 0 < n by omega)
    refine wpo_rem (c := x120 % n) rfl rfl (by omega) (by omega) (by omega) rfl rfl ?_
    refine wpo_assign (v := .int .i64 (x120 % n)) rfl rfl ?_
    refine wpo_nil ?_
    refine wpf_ret ?_
    refine thn_r ?_
    refine ⟨.int .i64 (x120 % n), res1 rfl rfl, (x120 % n), rfl, by omega, by omega, hS102.blk, hb103⟩
   ·
    have h132 := of_decide_eq_false h118
    refine wpf_skip ?_
    refine thn_n ?_
    refine wpf_seq ?_
    have hr185 := Int.emod_nonneg ((p + 1) - 1) (show (bs.length : Int) ≠ 0 by omega)
    have hr186 := Int.emod_lt_of_pos ((p + 1) - 1) (show 0 < (bs.length : Int) by omega)
    obtain ⟨x189, hx190⟩ := get_lt (l := bs) (i := (((p + 1) - 1) % (bs.length : Int)).toNat) (by omega)
    obtain ⟨b191, q192, o193, ha194, ho195, hne197, hr196⟩ := SlLt.at hs (map_get hx190)
    have hbd198 := hb x189 (List.mem_of_getElem? hx190)
    have hr199 := Int.emod_nonneg (((p + 1) - 1) * 7 + 3) (show (bs.length : Int) ≠ 0 by omega)
    have hr200 := Int.emod_lt_of_pos (((p + 1) - 1) * 7 + 3) (show 0 < (bs.length : Int) by omega)
    obtain ⟨x203, hx204⟩ := get_lt (l := bs) (i := ((((p + 1) - 1) * 7 + 3) % (bs.length : Int)).toNat) (by omega)
    obtain ⟨b205, q206, o207, ha208, ho209, hne211, hr210⟩ := SlLt.at hs (map_get hx204)
    have hbd212 := hb x203 (List.mem_of_getElem? hx204)
    have hr213 := Int.ediv_nonneg (show 0 ≤ ((p + 1) - 1) by omega) (show 0 ≤ (bs.length : Int) by omega)
    have hr214 := Int.ediv_le_self (bs.length : Int) (show 0 ≤ ((p + 1) - 1) by omega)
    refine wpf_draw (m := 44) (vals := [(47, .pointer (some ⟨R, 0, none⟩)), (48, .pointer (some ⟨R, 0, none⟩)), (49, .pointer (some ⟨R, 0, none⟩)), (50, .slice a bs.length c), (51, .int .i64 ((p + 1) - 1)), (52, .pointer (some ⟨R, 0, none⟩)), (53, .pointer (some ⟨R, 0, none⟩)), (54, .pointer (some ⟨R, 0, none⟩)), (55, .slice a bs.length c), (56, .int .i64 (bs.length : Int)), (57, .int .i64 (((p + 1) - 1) % (bs.length : Int))), (58, .pointer (some ⟨b191, o193, none⟩)), (59, .int .u8 x189), (60, .int .i64 x189), (61, .int .i64 (x189 * 131)), (62, .pointer (some ⟨R, 0, none⟩)), (63, .pointer (some ⟨R, 0, none⟩)), (64, .pointer (some ⟨R, 0, none⟩)), (65, .slice a bs.length c), (66, .int .i64 ((p + 1) - 1)), (67, .int .i64 (((p + 1) - 1) * 7)), (68, .int .i64 (((p + 1) - 1) * 7 + 3)), (69, .pointer (some ⟨R, 0, none⟩)), (70, .pointer (some ⟨R, 0, none⟩)), (71, .pointer (some ⟨R, 0, none⟩)), (72, .slice a bs.length c), (73, .int .i64 (bs.length : Int)), (74, .int .i64 ((((p + 1) - 1) * 7 + 3) % (bs.length : Int))), (75, .pointer (some ⟨b205, o207, none⟩)), (76, .int .u8 x203), (77, .int .i64 x203), (78, .int .i64 (x203 * 1117)), (79, .int .i64 (x189 * 131 + (x203 * 1117))), (80, .int .i64 ((p + 1) - 1)), (81, .int .i64 (((p + 1) - 1) * 29)), (82, .int .i64 (x189 * 131 + (x203 * 1117) + (((p + 1) - 1) * 29))), (83, .int .i64 ((p + 1) - 1)), (84, .pointer (some ⟨R, 0, none⟩)), (85, .pointer (some ⟨R, 0, none⟩)), (86, .pointer (some ⟨R, 0, none⟩)), (87, .slice a bs.length c), (88, .int .i64 (bs.length : Int)), (89, .int .i64 (((p + 1) - 1) / (bs.length : Int))), (90, .int .i64 ((((p + 1) - 1) / (bs.length : Int)) * 53))]) (fun w' => w101.grownBy w' none) mixed_ (by kernel_rfl) (grown_drew _) ?_ ?_
    ·
     refine yll_cons rfl (fun w217 hi218 => ?_) ?_
     ·
      have hb219 := low0 hb103 hi218
      refine wpo_move (v := .pointer (some ⟨R, 0, none⟩)) e109 rfl ?_
      exact wpo_nil ⟨rfl, hi218⟩
     refine yll_cons rfl (fun w220 hi221 => ?_) ?_
     ·
      have hb222 := low0 hb103 hi221
      refine wpo_nilCheck rfl rfl ?_
      exact wpo_nil ⟨rfl, hi221⟩
     refine yll_cons rfl (fun w223 hi224 => ?_) ?_
     ·
      have hb225 := low0 hb103 hi224
      refine wpo_fieldAddr (o' := 0) fo_56_0 rfl rfl rfl ?_
      exact wpo_nil ⟨rfl, hi224⟩
     refine yll_cons rfl (fun w226 hi227 => ?_) ?_
     ·
      have hb228 := low0 hb103 hi227
      have k229 := (hS102.blk.grown0 hi227)
      refine wpo_load1 (v := .slice a bs.length c) ot_22 rfl (k229.cell rfl) rfl ?_
      exact wpo_nil ⟨rfl, hi227⟩
     refine yll_cons rfl (fun w230 hi231 => ?_) ?_
     ·
      have hb232 := low0 hb103 hi231
      refine wpo_move (v := .int .i64 ((p + 1) - 1)) rfl rfl ?_
      exact wpo_nil ⟨rfl, hi231⟩
     refine yll_cons rfl (fun w233 hi234 => ?_) ?_
     ·
      have hb235 := low0 hb103 hi234
      refine wpo_move (v := .pointer (some ⟨R, 0, none⟩)) e109 rfl ?_
      exact wpo_nil ⟨rfl, hi234⟩
     refine yll_cons rfl (fun w236 hi237 => ?_) ?_
     ·
      have hb238 := low0 hb103 hi237
      refine wpo_nilCheck rfl rfl ?_
      exact wpo_nil ⟨rfl, hi237⟩
     refine yll_cons rfl (fun w239 hi240 => ?_) ?_
     ·
      have hb241 := low0 hb103 hi240
      refine wpo_fieldAddr (o' := 0) fo_56_0 rfl rfl rfl ?_
      exact wpo_nil ⟨rfl, hi240⟩
     refine yll_cons rfl (fun w242 hi243 => ?_) ?_
     ·
      have hb244 := low0 hb103 hi243
      have k245 := (hS102.blk.grown0 hi243)
      refine wpo_load1 (v := .slice a bs.length c) ot_22 rfl (k245.cell rfl) rfl ?_
      exact wpo_nil ⟨rfl, hi243⟩
     refine yll_cons rfl (fun w246 hi247 => ?_) ?_
     ·
      have hb248 := low0 hb103 hi247
      refine wpo_len (by kernel_rfl) rfl rfl ?_
      exact wpo_nil ⟨rfl, hi247⟩
     refine yll_cons rfl (fun w249 hi250 => ?_) ?_
     ·
      have hb251 := low0 hb103 hi250
      refine wpo_rem (c := ((p + 1) - 1) % (bs.length : Int)) rfl rfl (by omega) (by omega) (by omega) rfl rfl ?_
      exact wpo_nil ⟨rfl, hi250⟩
     refine yll_cons rfl (fun w252 hi253 => ?_) ?_
     ·
      have hb254 := low0 hb103 hi253
      refine wpo_indexE es_22 rfl rfl ha194 ho195 (by omega) (by omega) rfl ?_
      exact wpo_nil ⟨rfl, hi253⟩
     refine yll_cons rfl (fun w255 hi256 => ?_) ?_
     ·
      have hb257 := low0 hb103 hi256
      refine wpo_load1 (v := .int .u8 x189) ot_5 rfl ((range_grown hr196 hb257 (some_ne (by omega))) 0 _ rfl) rfl ?_
      exact wpo_nil ⟨rfl, hi256⟩
     refine yll_cons rfl (fun w258 hi259 => ?_) ?_
     ·
      have hb260 := low0 hb103 hi259
      refine wpo_conv (P := Tryd.prog) (k' := .i64) rfl (by kernel_rfl) (by kernel_rfl) (conv_i64 (by omega) (by omega)) rfl ?_
      exact wpo_nil ⟨rfl, hi259⟩
     refine yll_cons rfl (fun w261 hi262 => ?_) ?_
     ·
      have hb263 := low0 hb103 hi262
      refine wpo_mul (c := x189 * 131) rfl rfl rfl (by omega) (by omega) rfl ?_
      exact wpo_nil ⟨rfl, hi262⟩
     refine yll_cons rfl (fun w264 hi265 => ?_) ?_
     ·
      have hb266 := low0 hb103 hi265
      refine wpo_move (v := .pointer (some ⟨R, 0, none⟩)) e109 rfl ?_
      exact wpo_nil ⟨rfl, hi265⟩
     refine yll_cons rfl (fun w267 hi268 => ?_) ?_
     ·
      have hb269 := low0 hb103 hi268
      refine wpo_nilCheck rfl rfl ?_
      exact wpo_nil ⟨rfl, hi268⟩
     refine yll_cons rfl (fun w270 hi271 => ?_) ?_
     ·
      have hb272 := low0 hb103 hi271
      refine wpo_fieldAddr (o' := 0) fo_56_0 rfl rfl rfl ?_
      exact wpo_nil ⟨rfl, hi271⟩
     refine yll_cons rfl (fun w273 hi274 => ?_) ?_
     ·
      have hb275 := low0 hb103 hi274
      have k276 := (hS102.blk.grown0 hi274)
      refine wpo_load1 (v := .slice a bs.length c) ot_22 rfl (k276.cell rfl) rfl ?_
      exact wpo_nil ⟨rfl, hi274⟩
     refine yll_cons rfl (fun w277 hi278 => ?_) ?_
     ·
      have hb279 := low0 hb103 hi278
      refine wpo_move (v := .int .i64 ((p + 1) - 1)) rfl rfl ?_
      exact wpo_nil ⟨rfl, hi278⟩
     refine yll_cons rfl (fun w280 hi281 => ?_) ?_
     ·
      have hb282 := low0 hb103 hi281
      refine wpo_mul (c := ((p + 1) - 1) * 7) rfl rfl rfl (by omega) (by omega) rfl ?_
      exact wpo_nil ⟨rfl, hi281⟩
     refine yll_cons rfl (fun w283 hi284 => ?_) ?_
     ·
      have hb285 := low0 hb103 hi284
      refine wpo_add (c := ((p + 1) - 1) * 7 + 3) rfl rfl (by omega) (by omega) (by omega) rfl ?_
      exact wpo_nil ⟨rfl, hi284⟩
     refine yll_cons rfl (fun w286 hi287 => ?_) ?_
     ·
      have hb288 := low0 hb103 hi287
      refine wpo_move (v := .pointer (some ⟨R, 0, none⟩)) e109 rfl ?_
      exact wpo_nil ⟨rfl, hi287⟩
     refine yll_cons rfl (fun w289 hi290 => ?_) ?_
     ·
      have hb291 := low0 hb103 hi290
      refine wpo_nilCheck rfl rfl ?_
      exact wpo_nil ⟨rfl, hi290⟩
     refine yll_cons rfl (fun w292 hi293 => ?_) ?_
     ·
      have hb294 := low0 hb103 hi293
      refine wpo_fieldAddr (o' := 0) fo_56_0 rfl rfl rfl ?_
      exact wpo_nil ⟨rfl, hi293⟩
     refine yll_cons rfl (fun w295 hi296 => ?_) ?_
     ·
      have hb297 := low0 hb103 hi296
      have k298 := (hS102.blk.grown0 hi296)
      refine wpo_load1 (v := .slice a bs.length c) ot_22 rfl (k298.cell rfl) rfl ?_
      exact wpo_nil ⟨rfl, hi296⟩
     refine yll_cons rfl (fun w299 hi300 => ?_) ?_
     ·
      have hb301 := low0 hb103 hi300
      refine wpo_len (by kernel_rfl) rfl rfl ?_
      exact wpo_nil ⟨rfl, hi300⟩
     refine yll_cons rfl (fun w302 hi303 => ?_) ?_
     ·
      have hb304 := low0 hb103 hi303
      refine wpo_rem (c := (((p + 1) - 1) * 7 + 3) % (bs.length : Int)) rfl rfl (by omega) (by omega) (by omega) rfl rfl ?_
      exact wpo_nil ⟨rfl, hi303⟩
     refine yll_cons rfl (fun w305 hi306 => ?_) ?_
     ·
      have hb307 := low0 hb103 hi306
      refine wpo_indexE es_22 rfl rfl ha208 ho209 (by omega) (by omega) rfl ?_
      exact wpo_nil ⟨rfl, hi306⟩
     refine yll_cons rfl (fun w308 hi309 => ?_) ?_
     ·
      have hb310 := low0 hb103 hi309
      refine wpo_load1 (v := .int .u8 x203) ot_5 rfl ((range_grown hr210 hb310 (some_ne (by omega))) 0 _ rfl) rfl ?_
      exact wpo_nil ⟨rfl, hi309⟩
     refine yll_cons rfl (fun w311 hi312 => ?_) ?_
     ·
      have hb313 := low0 hb103 hi312
      refine wpo_conv (P := Tryd.prog) (k' := .i64) rfl (by kernel_rfl) (by kernel_rfl) (conv_i64 (by omega) (by omega)) rfl ?_
      exact wpo_nil ⟨rfl, hi312⟩
     refine yll_cons rfl (fun w314 hi315 => ?_) ?_
     ·
      have hb316 := low0 hb103 hi315
      refine wpo_mul (c := x203 * 1117) rfl rfl rfl (by omega) (by omega) rfl ?_
      exact wpo_nil ⟨rfl, hi315⟩
     refine yll_cons rfl (fun w317 hi318 => ?_) ?_
     ·
      have hb319 := low0 hb103 hi318
      refine wpo_add (c := x189 * 131 + (x203 * 1117)) rfl rfl (by omega) (by omega) (by omega) rfl ?_
      exact wpo_nil ⟨rfl, hi318⟩
     refine yll_cons rfl (fun w320 hi321 => ?_) ?_
     ·
      have hb322 := low0 hb103 hi321
      refine wpo_move (v := .int .i64 ((p + 1) - 1)) rfl rfl ?_
      exact wpo_nil ⟨rfl, hi321⟩
     refine yll_cons rfl (fun w323 hi324 => ?_) ?_
     ·
      have hb325 := low0 hb103 hi324
      refine wpo_mul (c := ((p + 1) - 1) * 29) rfl rfl rfl (by omega) (by omega) rfl ?_
      exact wpo_nil ⟨rfl, hi324⟩
     refine yll_cons rfl (fun w326 hi327 => ?_) ?_
     ·
      have hb328 := low0 hb103 hi327
      refine wpo_add (c := x189 * 131 + (x203 * 1117) + (((p + 1) - 1) * 29)) rfl rfl (by omega) (by omega) (by omega) rfl ?_
      exact wpo_nil ⟨rfl, hi327⟩
     refine yll_cons rfl (fun w329 hi330 => ?_) ?_
     ·
      have hb331 := low0 hb103 hi330
      refine wpo_move (v := .int .i64 ((p + 1) - 1)) rfl rfl ?_
      exact wpo_nil ⟨rfl, hi330⟩
     refine yll_cons rfl (fun w332 hi333 => ?_) ?_
     ·
      have hb334 := low0 hb103 hi333
      refine wpo_move (v := .pointer (some ⟨R, 0, none⟩)) e109 rfl ?_
      exact wpo_nil ⟨rfl, hi333⟩
     refine yll_cons rfl (fun w335 hi336 => ?_) ?_
     ·
      have hb337 := low0 hb103 hi336
      refine wpo_nilCheck rfl rfl ?_
      exact wpo_nil ⟨rfl, hi336⟩
     refine yll_cons rfl (fun w338 hi339 => ?_) ?_
     ·
      have hb340 := low0 hb103 hi339
      refine wpo_fieldAddr (o' := 0) fo_56_0 rfl rfl rfl ?_
      exact wpo_nil ⟨rfl, hi339⟩
     refine yll_cons rfl (fun w341 hi342 => ?_) ?_
     ·
      have hb343 := low0 hb103 hi342
      have k344 := (hS102.blk.grown0 hi342)
      refine wpo_load1 (v := .slice a bs.length c) ot_22 rfl (k344.cell rfl) rfl ?_
      exact wpo_nil ⟨rfl, hi342⟩
     refine yll_cons rfl (fun w345 hi346 => ?_) ?_
     ·
      have hb347 := low0 hb103 hi346
      refine wpo_len (by kernel_rfl) rfl rfl ?_
      exact wpo_nil ⟨rfl, hi346⟩
     refine yll_cons rfl (fun w348 hi349 => ?_) ?_
     ·
      have hb350 := low0 hb103 hi349
      refine wpo_quo (c := ((p + 1) - 1) / (bs.length : Int)) rfl rfl (by omega) (by omega) (by omega) rfl rfl ?_
      exact wpo_nil ⟨rfl, hi349⟩
     refine yll_cons rfl (fun w351 hi352 => ?_) ?_
     ·
      have hb353 := low0 hb103 hi352
      refine wpo_mul (c := (((p + 1) - 1) / (bs.length : Int)) * 53) rfl rfl rfl (by omega) (by omega) rfl ?_
      exact wpo_nil ⟨rfl, hi352⟩
     exact yll_nil
    ·
     intro w354 hi355
     have hb356 := low0 hb103 hi355
     refine wpo_add (c := x189 * 131 + (x203 * 1117) + (((p + 1) - 1) * 29) + ((((p + 1) - 1) / (bs.length : Int)) * 53)) rfl rfl (by omega) (by omega) (by omega) rfl ?_
     refine wpo_assign (v := .int .i64 (x189 * 131 + (x203 * 1117) + (((p + 1) - 1) * 29) + ((((p + 1) - 1) / (bs.length : Int)) * 53))) rfl rfl ?_
     refine wpo_nil ?_
     refine thn_n ?_
     refine wpf_seq_region ?_
     refine wpo_move (v := .int .i64 (x189 * 131 + (x203 * 1117) + (((p + 1) - 1) * 29) + ((((p + 1) - 1) / (bs.length : Int)) * 53))) rfl rfl ?_
     refine wpo_move (v := .int .i64 (x189 * 131 + (x203 * 1117) + (((p + 1) - 1) * 29) + ((((p + 1) - 1) / (bs.length : Int)) * 53))) rfl rfl ?_
     refine wpo_quo (c := (x189 * 131 + (x203 * 1117) + (((p + 1) - 1) * 29) + ((((p + 1) - 1) / (bs.length : Int)) * 53)) / 64) rfl rfl (by omega) (by omega) (by omega) rfl rfl ?_
     have hx357 := xor_pos (x := x189 * 131 + (x203 * 1117) + (((p + 1) - 1) * 29) + ((((p + 1) - 1) / (bs.length : Int)) * 53)) (y := (x189 * 131 + (x203 * 1117) + (((p + 1) - 1) * 29) + ((((p + 1) - 1) / (bs.length : Int)) * 53)) / 64) (by omega) (by omega) (by omega) (by omega)
     refine wpo_bin (u := .int .i64 (x189 * 131 + (x203 * 1117) + (((p + 1) - 1) * 29) + ((((p + 1) - 1) / (bs.length : Int)) * 53))) (u' := .int .i64 ((x189 * 131 + (x203 * 1117) + (((p + 1) - 1) * 29) + ((((p + 1) - 1) / (bs.length : Int)) * 53)) / 64)) (v := .int .i64 (bits .xor .i64 (x189 * 131 + (x203 * 1117) + (((p + 1) - 1) * 29) + ((((p + 1) - 1) / (bs.length : Int)) * 53)) ((x189 * 131 + (x203 * 1117) + (((p + 1) - 1) * 29) + ((((p + 1) - 1) / (bs.length : Int)) * 53)) / 64))) rfl rfl (by rw [binOp_xor, intBits_xor]; rfl) (fun _ _ => eqGuard_at_int ..) rfl ?_
     refine wpo_assign (v := .int .i64 (bits .xor .i64 (x189 * 131 + (x203 * 1117) + (((p + 1) - 1) * 29) + ((((p + 1) - 1) / (bs.length : Int)) * 53)) ((x189 * 131 + (x203 * 1117) + (((p + 1) - 1) * 29) + ((((p + 1) - 1) / (bs.length : Int)) * 53)) / 64))) rfl rfl ?_
     refine wpo_nil ?_
     refine wpf_seq_region ?_
     refine wpo_move (v := .int .i64 (bits .xor .i64 (x189 * 131 + (x203 * 1117) + (((p + 1) - 1) * 29) + ((((p + 1) - 1) / (bs.length : Int)) * 53)) ((x189 * 131 + (x203 * 1117) + (((p + 1) - 1) * 29) + ((((p + 1) - 1) / (bs.length : Int)) * 53)) / 64))) rfl rfl ?_
     refine wpo_move (v := .int .i64 n) e110 rfl ?_
     have hr358 := Int.emod_nonneg (bits .xor .i64 (x189 * 131 + (x203 * 1117) + (((p + 1) - 1) * 29) + ((((p + 1) - 1) / (bs.length : Int)) * 53)) ((x189 * 131 + (x203 * 1117) + (((p + 1) - 1) * 29) + ((((p + 1) - 1) / (bs.length : Int)) * 53)) / 64)) (show n ≠ 0 by omega)
     have hr359 := Int.emod_lt_of_pos (bits .xor .i64 (x189 * 131 + (x203 * 1117) + (((p + 1) - 1) * 29) + ((((p + 1) - 1) / (bs.length : Int)) * 53)) ((x189 * 131 + (x203 * 1117) + (((p + 1) - 1) * 29) + ((((p + 1) - 1) / (bs.length : Int)) * 53)) / 64)) (show 0 < n by omega)
     refine wpo_rem (c := (bits .xor .i64 (x189 * 131 + (x203 * 1117) + (((p + 1) - 1) * 29) + ((((p + 1) - 1) / (bs.length : Int)) * 53)) ((x189 * 131 + (x203 * 1117) + (((p + 1) - 1) * 29) + ((((p + 1) - 1) / (bs.length : Int)) * 53)) / 64)) % n) rfl rfl (by omega) (by omega) (by omega) rfl rfl ?_
     refine wpo_assign (v := .int .i64 ((bits .xor .i64 (x189 * 131 + (x203 * 1117) + (((p + 1) - 1) * 29) + ((((p + 1) - 1) / (bs.length : Int)) * 53)) ((x189 * 131 + (x203 * 1117) + (((p + 1) - 1) * 29) + ((((p + 1) - 1) / (bs.length : Int)) * 53)) / 64)) % n)) rfl rfl ?_
     refine wpo_nil ?_
     refine wpf_ret ?_
     have k360 := (hS102.blk.grown0 hi355)
     refine ⟨.int .i64 ((bits .xor .i64 (x189 * 131 + (x203 * 1117) + (((p + 1) - 1) * 29) + ((((p + 1) - 1) / (bs.length : Int)) * 53)) ((x189 * 131 + (x203 * 1117) + (((p + 1) - 1) * 29) + ((((p + 1) - 1) / (bs.length : Int)) * 53)) / 64)) % n), res1 rfl rfl, ((bits .xor .i64 (x189 * 131 + (x203 * 1117) + (((p + 1) - 1) * 29) + ((((p + 1) - 1) / (bs.length : Int)) * 53)) ((x189 * 131 + (x203 * 1117) + (((p + 1) - 1) * 29) + ((((p + 1) - 1) / (bs.length : Int)) * 53)) / 64)) % n), rfl, by omega, by omega, k360, hb356⟩

theorem l71Right_c (p : Int) (hp : 0 ≤ p ∧ p ≤ 1000000000000) (lo R : Nat) (bs : List Int) (a : Option Addr) (c : Nat) (w : World) (hR : Blk w R 56 #[.slice a bs.length c, .int .i64 p]) (hlo : lo ≤ R) (hs : SlLt lo w a 1 (bs.map bcell)) (hb : ∀ b ∈ bs, 0 ≤ b ∧ b ≤ 255) (hn : bs.length ≤ 1048576) : CallsR Tryd.prog 43 #[.pointer (some ⟨R, 0, none⟩)] w (fun v w' => ∃ (r : Rt) (p' : Int), v = .agg #[.int .i64 r.th, .int .i64 r.ve, .bool r.rd, .bool r.wr, .bool r.wk] ∧ -1 ≤ r.th ∧ r.th ≤ 9 ∧ -1 ≤ r.ve ∧ r.ve ≤ 9 ∧ p ≤ p' ∧ p' ≤ p + 8 ∧ Blk w' R 56 #[.slice a bs.length c, .int .i64 p'] ∧ w.grownBy w' (some R)) := by
 refine calls_of_wpf (n := 49) Tryd.func43 rfl Tryd.ntmps43 rfl ?_
 have hb0 := World.grownBy.refl w (some R)
 have hRlt := hR.lt
 refine wpf_seq_region ?_
 refine wpo_alloc (cs := #[.int .i64 0, .int .i64 0, .bool false, .bool false, .bool false]) zt_39 rfl rfl ?_
 intro B101 w102 hN103
 have hlB101 := hN_ge hN103 hb0
 have lt_R_B101 := hN_gtl hN103 (hR).lt
 have hb104 := low0 hb0 hN103.grw
 refine wpo_nil ?_
 refine wpf_seq ?_
 refine wpf_seq_region ?_
 refine wpo_move (v := .pointer (some ⟨R, 0, none⟩)) rfl rfl ?_
 have k105 := (hR.grown0 hN103.grw)
 refine wpo_call (vs := [.pointer (some ⟨R, 0, none⟩), .int .i64 6]) gf_26 (args_cons rfl (args_cons rfl args_nil)) rfl (pick_c p 6 (by omega) _ R bs _ _ _ k105 (by omega) (SlLt.low1 hs hb104 hlo) (by first | exact hb | exact fun b h => hb b (List.mem_of_mem_take h)) (by first | omega | (rw [List.length_take]; omega))) ?_
 rintro _ w111 ⟨k106, rfl, hk107, hk108, kR109, hg110⟩
 have hb112 := grown_trans hb104 hg110
 refine wpo_eql (q := decide (k106 = 0)) rfl rfl rfl rfl ?_
 refine wpo_nil ?_
 refine wpf_cond rfl (fun h113 => ?_) (fun h113 => ?_)
 ·
  have h114 := of_decide_eq_true h113
  refine wpf_seq_region ?_
  refine wpo_build (ps := []) (v := .agg #[.int .i64 0, .int .i64 0, .bool false, .bool false, .bool false]) parts_nil (by kernel_rfl) rfl ?_
  have k115 := (hN103.blk.gn hg110)
  refine wpo_storen (vs := [.int .i64 0, .int .i64 0, .bool false, .bool false, .bool false]) (cs' := #[.int .i64 0, .int .i64 0, .bool false, .bool false, .bool false]) rt_39 rfl rfl rfl (by simp [Value.oneCell']) k115 (Nat.le_of_ble_eq_true rfl) rfl ?_
  intro w116 hS117
  have hb118 := low1 hb112 hS117.grw (by omega)
  refine wpo_nil ?_
  refine wpf_ret ?_
  refine thn_r ?_
  have k119 := (kR109.gn hS117.grw)
  refine ⟨.agg #[.int .i64 0, .int .i64 0, .bool false, .bool false, .bool false], resC rfl (resCell_mk (vs := [.int .i64 0, .int .i64 0, .bool false, .bool false, .bool false]) rt_39 rfl rfl (hS117.blk.rangeL 0 5 rfl)), ⟨0, 0, false, false, false⟩, (p + 1), rfl, show (-1 : Int) ≤ 0 by omega, show 0 ≤ (9 : Int) by omega, show (-1 : Int) ≤ 0 by omega, show 0 ≤ (9 : Int) by omega, by omega, by omega, k119, hb118⟩
 ·
  have h120 := of_decide_eq_false h113
  refine wpf_skip ?_
  refine thn_n ?_
  refine wpf_seq_region ?_
  refine wpo_move (v := .pointer (some ⟨R, 0, none⟩)) rfl rfl ?_
  refine wpo_call (vs := [.pointer (some ⟨R, 0, none⟩), .int .i64 8]) gf_26 (args_cons rfl (args_cons rfl args_nil)) rfl (pick_c (p + 1) 8 (by omega) _ R bs _ _ _ kR109 (by omega) (SlLt.low1 hs hb112 hlo) (by first | exact hb | exact fun b h => hb b (List.mem_of_mem_take h)) (by first | omega | (rw [List.length_take]; omega))) ?_
  rintro _ w126 ⟨k121, rfl, hk122, hk123, kR124, hg125⟩
  have hb127 := grown_trans hb112 hg125
  refine wpo_add (c := 1 + k121) rfl rfl (by omega) (by omega) (by omega) rfl ?_
  refine wpo_move (v := .pointer (some ⟨R, 0, none⟩)) rfl rfl ?_
  refine wpo_call (vs := [.pointer (some ⟨R, 0, none⟩), .int .i64 3]) gf_26 (args_cons rfl (args_cons rfl args_nil)) rfl (pick_c (p + 1 + 1) 3 (by omega) _ R bs _ _ _ kR124 (by omega) (SlLt.low1 hs hb127 hlo) (by first | exact hb | exact fun b h => hb b (List.mem_of_mem_take h)) (by first | omega | (rw [List.length_take]; omega))) ?_
  rintro _ w133 ⟨k128, rfl, hk129, hk130, kR131, hg132⟩
  have hb134 := grown_trans hb127 hg132
  refine wpo_move (v := .pointer (some ⟨R, 0, none⟩)) rfl rfl ?_
  refine wpo_call (vs := [.pointer (some ⟨R, 0, none⟩), .int .i64 4]) gf_26 (args_cons rfl (args_cons rfl args_nil)) rfl (pick_c (p + 1 + 1 + 1) 4 (by omega) _ R bs _ _ _ kR131 (by omega) (SlLt.low1 hs hb134 hlo) (by first | exact hb | exact fun b h => hb b (List.mem_of_mem_take h)) (by first | omega | (rw [List.length_take]; omega))) ?_
  rintro _ w140 ⟨k135, rfl, hk136, hk137, kR138, hg139⟩
  have hb141 := grown_trans hb134 hg139
  refine wpo_gtr (q := decide (0 < k135)) rfl rfl rfl rfl ?_
  refine wpo_move (v := .pointer (some ⟨R, 0, none⟩)) rfl rfl ?_
  refine wpo_call (vs := [.pointer (some ⟨R, 0, none⟩), .int .i64 2]) gf_26 (args_cons rfl (args_cons rfl args_nil)) rfl (pick_c (p + 1 + 1 + 1 + 1) 2 (by omega) _ R bs _ _ _ kR138 (by omega) (SlLt.low1 hs hb141 hlo) (by first | exact hb | exact fun b h => hb b (List.mem_of_mem_take h)) (by first | omega | (rw [List.length_take]; omega))) ?_
  rintro _ w147 ⟨k142, rfl, hk143, hk144, kR145, hg146⟩
  have hb148 := grown_trans hb141 hg146
  refine wpo_eql (q := decide (k142 = 0)) rfl rfl rfl rfl ?_
  refine wpo_build (ps := [(0, .int .i64 (1 + k121)), (1, .int .i64 k128), (2, .bool (decide (0 < k135))), (3, .bool (decide (k142 = 0)))]) (v := .agg #[.int .i64 (1 + k121), .int .i64 k128, .bool (decide (0 < k135)), .bool (decide (k142 = 0)), .bool false]) (parts_cons rfl (parts_cons rfl (parts_cons rfl (parts_cons rfl parts_nil)))) (by kernel_rfl) rfl ?_
  refine wpo_alloc (cs := #[.int .i64 0, .int .i64 0, .bool false, .bool false, .bool false]) zt_39 rfl rfl ?_
  intro B149 w150 hN151
  have hlB149 := hN_ge hN151 hb148
  have lt_R_B149 := hN_gtl hN151 (kR145).lt
  have k152 := (((((hN103.blk.gn hg110).gn hg125).gn hg132).gn hg139).gn hg146)
  have lt_B101_B149 := hN_gtl hN151 (k152).lt
  have hb153 := low0 hb148 hN151.grw
  refine wpo_storen (vs := [.int .i64 (1 + k121), .int .i64 k128, .bool (decide (0 < k135)), .bool (decide (k142 = 0)), .bool false]) (cs' := #[.int .i64 (1 + k121), .int .i64 k128, .bool (decide (0 < k135)), .bool (decide (k142 = 0)), .bool false]) rt_39 rfl rfl rfl (by simp [Value.oneCell']) hN151.blk (Nat.le_of_ble_eq_true rfl) rfl ?_
  intro w154 hS155
  have hb156 := low1 hb153 hS155.grw (by omega)
  refine wpo_nil ?_
  refine wpf_seq ?_
  refine wpf_seq_region ?_
  refine wpo_fieldAddr (o' := 3) fo_39_3 rfl rfl rfl ?_
  refine wpo_load1 (v := .bool (decide (k142 = 0))) ot_4 rfl (hS155.blk.cell rfl) rfl ?_
  refine wpo_not (b' := !(decide (k142 = 0))) rfl rfl rfl ?_
  refine wpo_nil ?_
  refine wpf_cond rfl (fun h157 => ?_) (fun h157 => ?_)
  ·
   have h158 := nt_t h157
   have h159 := of_decide_eq_false h158
   refine wpf_region ?_
   refine wpo_move (v := .pointer (some ⟨R, 0, none⟩)) rfl rfl ?_
   have k160 := ((kR145.grown0 hN151.grw).gn hS155.grw)
   refine wpo_call (vs := [.pointer (some ⟨R, 0, none⟩), .int .i64 2]) gf_26 (args_cons rfl (args_cons rfl args_nil)) rfl (pick_c (p + 1 + 1 + 1 + 1 + 1) 2 (by omega) _ R bs _ _ _ k160 (by omega) (SlLt.low1 hs hb156 hlo) (by first | exact hb | exact fun b h => hb b (List.mem_of_mem_take h)) (by first | omega | (rw [List.length_take]; omega))) ?_
   rintro _ w166 ⟨k161, rfl, hk162, hk163, kR164, hg165⟩
   have hb167 := grown_trans hb156 hg165
   refine wpo_eql (q := decide (k161 = 0)) rfl rfl rfl rfl ?_
   refine wpo_fieldAddr (o' := 4) fo_39_4 rfl rfl rfl ?_
   have k168 := (hS155.blk.gn hg165)
   refine wpo_store1 (v := .bool (decide (k161 = 0))) (cs' := #[.int .i64 (1 + k121), .int .i64 k128, .bool (decide (0 < k135)), .bool (decide (k142 = 0)), .bool (decide (k161 = 0))]) ot_4 rfl rfl rfl k168 (Nat.le_of_ble_eq_true rfl) rfl ?_
   intro w169 hS170
   have hb171 := low1 hb167 hS170.grw (by omega)
   refine wpo_nil ?_
   refine thn_n ?_
   refine wpf_seq ?_
   refine wpf_seq_region ?_
   refine wpo_move (v := .pointer (some ⟨R, 0, none⟩)) rfl rfl ?_
   have k172 := (kR164.gn hS170.grw)
   refine wpo_call (vs := [.pointer (some ⟨R, 0, none⟩), .int .i64 40]) gf_26 (args_cons rfl (args_cons rfl args_nil)) rfl (pick_c (p + 1 + 1 + 1 + 1 + 1 + 1) 40 (by omega) _ R bs _ _ _ k172 (by omega) (SlLt.low1 hs hb171 hlo) (by first | exact hb | exact fun b h => hb b (List.mem_of_mem_take h)) (by first | omega | (rw [List.length_take]; omega))) ?_
   rintro _ w178 ⟨k173, rfl, hk174, hk175, kR176, hg177⟩
   have hb179 := grown_trans hb171 hg177
   refine wpo_nil ?_
   refine wpf_block ?_
   refine wpf_seq_region ?_
   refine wpo_eql (q := decide (k173 = 0)) rfl rfl rfl rfl ?_
   refine wpo_assign (v := .bool (decide (k173 = 0))) rfl rfl ?_
   refine wpo_nil ?_
   refine wpf_cond rfl (fun h180 => ?_) (fun h180 => ?_)
   ·
    have h181 := of_decide_eq_true h180
    refine wpf_region ?_
    refine wpo_fieldAddr (o' := 4) fo_39_4 rfl rfl rfl ?_
    have k182 := (hS170.blk.gn hg177)
    refine wpo_store1 (v := .bool true) (cs' := #[.int .i64 (1 + k121), .int .i64 k128, .bool (decide (0 < k135)), .bool (decide (k142 = 0)), .bool true]) ot_4 rfl rfl rfl k182 (Nat.le_of_ble_eq_true rfl) rfl ?_
    intro w183 hS184
    have hb185 := low1 hb179 hS184.grw (by omega)
    refine wpo_nil ?_
    refine blk_n ?_
    refine thn_n ?_
    refine wpf_seq_region ?_
    refine wpo_loadn (vs := [.int .i64 (1 + k121), .int .i64 k128, .bool (decide (0 < k135)), .bool (decide (k142 = 0)), .bool true]) rt_39 rfl rfl (hS184.blk.rangeL 0 5 rfl) rfl ?_
    have k186 := ((((((k152.grown0 hN151.grw).gn hS155.grw).gn hg165).gn hS170.grw).gn hg177).gn hS184.grw)
    refine wpo_storen (vs := [.int .i64 (1 + k121), .int .i64 k128, .bool (decide (0 < k135)), .bool (decide (k142 = 0)), .bool true]) (cs' := #[.int .i64 (1 + k121), .int .i64 k128, .bool (decide (0 < k135)), .bool (decide (k142 = 0)), .bool true]) rt_39 rfl rfl rfl (by simp [Value.oneCell']) k186 (Nat.le_of_ble_eq_true rfl) rfl ?_
    intro w187 hS188
    have hb189 := low1 hb185 hS188.grw (by omega)
    refine wpo_nil ?_
    refine wpf_ret ?_
    have k190 := ((kR176.gn hS184.grw).gn hS188.grw)
    refine ⟨.agg #[.int .i64 (1 + k121), .int .i64 k128, .bool (decide (0 < k135)), .bool (decide (k142 = 0)), .bool true], resC rfl (resCell_mk (vs := [.int .i64 (1 + k121), .int .i64 k128, .bool (decide (0 < k135)), .bool (decide (k142 = 0)), .bool true]) rt_39 rfl rfl (hS188.blk.rangeL 0 5 rfl)), ⟨1 + k121, k128, decide (0 < k135), decide (k142 = 0), true⟩, (p + 1 + 1 + 1 + 1 + 1 + 1 + 1), rfl, show (-1 : Int) ≤ 1 + k121 by omega, show 1 + k121 ≤ (9 : Int) by omega, show (-1 : Int) ≤ k128 by omega, show k128 ≤ (9 : Int) by omega, by omega, by omega, k190, hb189⟩
   ·
    have h191 := of_decide_eq_false h180
    refine wpf_seq_region ?_
    refine wpo_eql (q := decide (k173 = 1)) rfl rfl rfl rfl ?_
    refine wpo_assign (v := .bool (decide (k173 = 1))) rfl rfl ?_
    refine wpo_nil ?_
    refine wpf_cond rfl (fun h192 => ?_) (fun h192 => ?_)
    ·
     have h193 := of_decide_eq_true h192
     refine wpf_region ?_
     refine wpo_buildSlice (ps := [(0, .int .i64 0), (1, .int .i64 9), (2, .int .i64 (-1))]) (e := 3) (cs := (([0, 9, (-1)] : List Int).flatMap icell).toArray) (parts_cons rfl (parts_cons rfl (parts_cons rfl parts_nil))) (fun _ => by kernel_rfl) rfl ?_
     intro B194 w195 hN196
     have hlB194 := hN_ge hN196 hb179
     have lt_R_B194 := hN_gtl hN196 (kR176).lt
     have k197 := (((((k152.grown0 hN151.grw).gn hS155.grw).gn hg165).gn hS170.grw).gn hg177)
     have lt_B101_B194 := hN_gtl hN196 (k197).lt
     have k198 := (hS170.blk.gn hg177)
     have lt_B149_B194 := hN_gtl hN196 (k198).lt
     have hb199 := low0 hb179 hN196.grw
     refine wpo_move (v := .pointer (some ⟨R, 0, none⟩)) rfl rfl ?_
     have k200 := (kR176.grown0 hN196.grw)
     refine wpo_call (vs := [.pointer (some ⟨R, 0, none⟩), .int .i64 3]) gf_26 (args_cons rfl (args_cons rfl args_nil)) rfl (pick_c (p + 1 + 1 + 1 + 1 + 1 + 1 + 1) 3 (by omega) _ R bs _ _ _ k200 (by omega) (SlLt.low1 hs hb199 hlo) (by first | exact hb | exact fun b h => hb b (List.mem_of_mem_take h)) (by first | omega | (rw [List.length_take]; omega))) ?_
     rintro _ w206 ⟨k201, rfl, hk202, hk203, kR204, hg205⟩
     have hb207 := grown_trans hb199 hg205
     refine wpo_indexAddr (o' := (k201).toNat * 1) es_29 rfl rfl (by omega) (by omega) (by omega) rfl ?_
     have k208 := (hN196.blk.gn hg205)
     obtain ⟨x209, hx210⟩ := get_lt (l := ([0, 9, (-1)] : List Int)) (i := (k201).toNat) (show (k201).toNat < 3 by omega)
     have hm211 := List.mem_of_getElem? hx210
     simp only [List.mem_cons, List.not_mem_nil, or_false] at hm211
     refine wpo_load1 (v := .int .i64 x209) ot_3 rfl ((rows_range wide_int k208 hx210) 0 _ rfl) rfl ?_
     refine wpo_fieldAddr (o' := 0) fo_39_0 rfl rfl rfl ?_
     have k212 := ((k198.grown0 hN196.grw).gn hg205)
     refine wpo_store1 (v := .int .i64 x209) (cs' := #[.int .i64 x209, .int .i64 k128, .bool (decide (0 < k135)), .bool (decide (k142 = 0)), .bool (decide (k161 = 0))]) ot_3 rfl rfl rfl k212 (Nat.le_of_ble_eq_true rfl) rfl ?_
     intro w213 hS214
     have hb215 := low1 hb207 hS214.grw (by omega)
     refine wpo_nil ?_
     refine blk_n ?_
     refine thn_n ?_
     refine wpf_seq_region ?_
     refine wpo_loadn (vs := [.int .i64 x209, .int .i64 k128, .bool (decide (0 < k135)), .bool (decide (k142 = 0)), .bool (decide (k161 = 0))]) rt_39 rfl rfl (hS214.blk.rangeL 0 5 rfl) rfl ?_
     have k216 := (((k197.grown0 hN196.grw).gn hg205).gn hS214.grw)
     refine wpo_storen (vs := [.int .i64 x209, .int .i64 k128, .bool (decide (0 < k135)), .bool (decide (k142 = 0)), .bool (decide (k161 = 0))]) (cs' := #[.int .i64 x209, .int .i64 k128, .bool (decide (0 < k135)), .bool (decide (k142 = 0)), .bool (decide (k161 = 0))]) rt_39 rfl rfl rfl (by simp [Value.oneCell']) k216 (Nat.le_of_ble_eq_true rfl) rfl ?_
     intro w217 hS218
     have hb219 := low1 hb215 hS218.grw (by omega)
     refine wpo_nil ?_
     refine wpf_ret ?_
     have k220 := ((kR204.gn hS214.grw).gn hS218.grw)
     refine ⟨.agg #[.int .i64 x209, .int .i64 k128, .bool (decide (0 < k135)), .bool (decide (k142 = 0)), .bool (decide (k161 = 0))], resC rfl (resCell_mk (vs := [.int .i64 x209, .int .i64 k128, .bool (decide (0 < k135)), .bool (decide (k142 = 0)), .bool (decide (k161 = 0))]) rt_39 rfl rfl (hS218.blk.rangeL 0 5 rfl)), ⟨x209, k128, decide (0 < k135), decide (k142 = 0), decide (k161 = 0)⟩, (p + 1 + 1 + 1 + 1 + 1 + 1 + 1 + 1), rfl, show (-1 : Int) ≤ x209 by omega, show x209 ≤ (9 : Int) by omega, show (-1 : Int) ≤ k128 by omega, show k128 ≤ (9 : Int) by omega, by omega, by omega, k220, hb219⟩
    ·
     have h221 := of_decide_eq_false h192
     refine wpf_seq_region ?_
     refine wpo_eql (q := decide (k173 = 2)) rfl rfl rfl rfl ?_
     refine wpo_assign (v := .bool (decide (k173 = 2))) rfl rfl ?_
     refine wpo_nil ?_
     refine wpf_cond rfl (fun h222 => ?_) (fun h222 => ?_)
     ·
      have h223 := of_decide_eq_true h222
      refine wpf_region ?_
      refine wpo_buildSlice (ps := [(0, .int .i64 (-1)), (1, .int .i64 5), (2, .int .i64 6)]) (e := 3) (cs := (([(-1), 5, 6] : List Int).flatMap icell).toArray) (parts_cons rfl (parts_cons rfl (parts_cons rfl parts_nil))) (fun _ => by kernel_rfl) rfl ?_
      intro B224 w225 hN226
      have hlB224 := hN_ge hN226 hb179
      have lt_R_B224 := hN_gtl hN226 (kR176).lt
      have k227 := (((((k152.grown0 hN151.grw).gn hS155.grw).gn hg165).gn hS170.grw).gn hg177)
      have lt_B101_B224 := hN_gtl hN226 (k227).lt
      have k228 := (hS170.blk.gn hg177)
      have lt_B149_B224 := hN_gtl hN226 (k228).lt
      have hb229 := low0 hb179 hN226.grw
      refine wpo_move (v := .pointer (some ⟨R, 0, none⟩)) rfl rfl ?_
      have k230 := (kR176.grown0 hN226.grw)
      refine wpo_call (vs := [.pointer (some ⟨R, 0, none⟩), .int .i64 3]) gf_26 (args_cons rfl (args_cons rfl args_nil)) rfl (pick_c (p + 1 + 1 + 1 + 1 + 1 + 1 + 1) 3 (by omega) _ R bs _ _ _ k230 (by omega) (SlLt.low1 hs hb229 hlo) (by first | exact hb | exact fun b h => hb b (List.mem_of_mem_take h)) (by first | omega | (rw [List.length_take]; omega))) ?_
      rintro _ w236 ⟨k231, rfl, hk232, hk233, kR234, hg235⟩
      have hb237 := grown_trans hb229 hg235
      refine wpo_indexAddr (o' := (k231).toNat * 1) es_29 rfl rfl (by omega) (by omega) (by omega) rfl ?_
      have k238 := (hN226.blk.gn hg235)
      obtain ⟨x239, hx240⟩ := get_lt (l := ([(-1), 5, 6] : List Int)) (i := (k231).toNat) (show (k231).toNat < 3 by omega)
      have hm241 := List.mem_of_getElem? hx240
      simp only [List.mem_cons, List.not_mem_nil, or_false] at hm241
      refine wpo_load1 (v := .int .i64 x239) ot_3 rfl ((rows_range wide_int k238 hx240) 0 _ rfl) rfl ?_
      refine wpo_fieldAddr (o' := 1) fo_39_1 rfl rfl rfl ?_
      have k242 := ((k228.grown0 hN226.grw).gn hg235)
      refine wpo_store1 (v := .int .i64 x239) (cs' := #[.int .i64 (1 + k121), .int .i64 x239, .bool (decide (0 < k135)), .bool (decide (k142 = 0)), .bool (decide (k161 = 0))]) ot_3 rfl rfl rfl k242 (Nat.le_of_ble_eq_true rfl) rfl ?_
      intro w243 hS244
      have hb245 := low1 hb237 hS244.grw (by omega)
      refine wpo_nil ?_
      refine blk_n ?_
      refine thn_n ?_
      refine wpf_seq_region ?_
      refine wpo_loadn (vs := [.int .i64 (1 + k121), .int .i64 x239, .bool (decide (0 < k135)), .bool (decide (k142 = 0)), .bool (decide (k161 = 0))]) rt_39 rfl rfl (hS244.blk.rangeL 0 5 rfl) rfl ?_
      have k246 := (((k227.grown0 hN226.grw).gn hg235).gn hS244.grw)
      refine wpo_storen (vs := [.int .i64 (1 + k121), .int .i64 x239, .bool (decide (0 < k135)), .bool (decide (k142 = 0)), .bool (decide (k161 = 0))]) (cs' := #[.int .i64 (1 + k121), .int .i64 x239, .bool (decide (0 < k135)), .bool (decide (k142 = 0)), .bool (decide (k161 = 0))]) rt_39 rfl rfl rfl (by simp [Value.oneCell']) k246 (Nat.le_of_ble_eq_true rfl) rfl ?_
      intro w247 hS248
      have hb249 := low1 hb245 hS248.grw (by omega)
      refine wpo_nil ?_
      refine wpf_ret ?_
      have k250 := ((kR234.gn hS244.grw).gn hS248.grw)
      refine ⟨.agg #[.int .i64 (1 + k121), .int .i64 x239, .bool (decide (0 < k135)), .bool (decide (k142 = 0)), .bool (decide (k161 = 0))], resC rfl (resCell_mk (vs := [.int .i64 (1 + k121), .int .i64 x239, .bool (decide (0 < k135)), .bool (decide (k142 = 0)), .bool (decide (k161 = 0))]) rt_39 rfl rfl (hS248.blk.rangeL 0 5 rfl)), ⟨1 + k121, x239, decide (0 < k135), decide (k142 = 0), decide (k161 = 0)⟩, (p + 1 + 1 + 1 + 1 + 1 + 1 + 1 + 1), rfl, show (-1 : Int) ≤ 1 + k121 by omega, show 1 + k121 ≤ (9 : Int) by omega, show (-1 : Int) ≤ x239 by omega, show x239 ≤ (9 : Int) by omega, by omega, by omega, k250, hb249⟩
     ·
      have h251 := of_decide_eq_false h222
      refine wpf_skip ?_
      refine blk_n ?_
      refine thn_n ?_
      refine wpf_seq_region ?_
      have k252 := (hS170.blk.gn hg177)
      refine wpo_loadn (vs := [.int .i64 (1 + k121), .int .i64 k128, .bool (decide (0 < k135)), .bool (decide (k142 = 0)), .bool (decide (k161 = 0))]) rt_39 rfl rfl (k252.rangeL 0 5 rfl) rfl ?_
      have k253 := (((((k152.grown0 hN151.grw).gn hS155.grw).gn hg165).gn hS170.grw).gn hg177)
      refine wpo_storen (vs := [.int .i64 (1 + k121), .int .i64 k128, .bool (decide (0 < k135)), .bool (decide (k142 = 0)), .bool (decide (k161 = 0))]) (cs' := #[.int .i64 (1 + k121), .int .i64 k128, .bool (decide (0 < k135)), .bool (decide (k142 = 0)), .bool (decide (k161 = 0))]) rt_39 rfl rfl rfl (by simp [Value.oneCell']) k253 (Nat.le_of_ble_eq_true rfl) rfl ?_
      intro w254 hS255
      have hb256 := low1 hb179 hS255.grw (by omega)
      refine wpo_nil ?_
      refine wpf_ret ?_
      have k257 := (kR176.gn hS255.grw)
      refine ⟨.agg #[.int .i64 (1 + k121), .int .i64 k128, .bool (decide (0 < k135)), .bool (decide (k142 = 0)), .bool (decide (k161 = 0))], resC rfl (resCell_mk (vs := [.int .i64 (1 + k121), .int .i64 k128, .bool (decide (0 < k135)), .bool (decide (k142 = 0)), .bool (decide (k161 = 0))]) rt_39 rfl rfl (hS255.blk.rangeL 0 5 rfl)), ⟨1 + k121, k128, decide (0 < k135), decide (k142 = 0), decide (k161 = 0)⟩, (p + 1 + 1 + 1 + 1 + 1 + 1 + 1), rfl, show (-1 : Int) ≤ 1 + k121 by omega, show 1 + k121 ≤ (9 : Int) by omega, show (-1 : Int) ≤ k128 by omega, show k128 ≤ (9 : Int) by omega, by omega, by omega, k257, hb256⟩
  ·
   have h258 := nt_f h157
   have h259 := of_decide_eq_true h258
   refine wpf_skip ?_
   refine thn_n ?_
   refine wpf_seq ?_
   refine wpf_seq_region ?_
   refine wpo_move (v := .pointer (some ⟨R, 0, none⟩)) rfl rfl ?_
   have k260 := ((kR145.grown0 hN151.grw).gn hS155.grw)
   refine wpo_call (vs := [.pointer (some ⟨R, 0, none⟩), .int .i64 40]) gf_26 (args_cons rfl (args_cons rfl args_nil)) rfl (pick_c (p + 1 + 1 + 1 + 1 + 1) 40 (by omega) _ R bs _ _ _ k260 (by omega) (SlLt.low1 hs hb156 hlo) (by first | exact hb | exact fun b h => hb b (List.mem_of_mem_take h)) (by first | omega | (rw [List.length_take]; omega))) ?_
   rintro _ w266 ⟨k261, rfl, hk262, hk263, kR264, hg265⟩
   have hb267 := grown_trans hb156 hg265
   refine wpo_nil ?_
   refine wpf_block ?_
   refine wpf_seq_region ?_
   refine wpo_eql (q := decide (k261 = 0)) rfl rfl rfl rfl ?_
   refine wpo_assign (v := .bool (decide (k261 = 0))) rfl rfl ?_
   refine wpo_nil ?_
   refine wpf_cond rfl (fun h268 => ?_) (fun h268 => ?_)
   ·
    have h269 := of_decide_eq_true h268
    refine wpf_region ?_
    refine wpo_fieldAddr (o' := 4) fo_39_4 rfl rfl rfl ?_
    have k270 := (hS155.blk.gn hg265)
    refine wpo_store1 (v := .bool true) (cs' := #[.int .i64 (1 + k121), .int .i64 k128, .bool (decide (0 < k135)), .bool (decide (k142 = 0)), .bool true]) ot_4 rfl rfl rfl k270 (Nat.le_of_ble_eq_true rfl) rfl ?_
    intro w271 hS272
    have hb273 := low1 hb267 hS272.grw (by omega)
    refine wpo_nil ?_
    refine blk_n ?_
    refine thn_n ?_
    refine wpf_seq_region ?_
    refine wpo_loadn (vs := [.int .i64 (1 + k121), .int .i64 k128, .bool (decide (0 < k135)), .bool (decide (k142 = 0)), .bool true]) rt_39 rfl rfl (hS272.blk.rangeL 0 5 rfl) rfl ?_
    have k274 := ((((k152.grown0 hN151.grw).gn hS155.grw).gn hg265).gn hS272.grw)
    refine wpo_storen (vs := [.int .i64 (1 + k121), .int .i64 k128, .bool (decide (0 < k135)), .bool (decide (k142 = 0)), .bool true]) (cs' := #[.int .i64 (1 + k121), .int .i64 k128, .bool (decide (0 < k135)), .bool (decide (k142 = 0)), .bool true]) rt_39 rfl rfl rfl (by simp [Value.oneCell']) k274 (Nat.le_of_ble_eq_true rfl) rfl ?_
    intro w275 hS276
    have hb277 := low1 hb273 hS276.grw (by omega)
    refine wpo_nil ?_
    refine wpf_ret ?_
    have k278 := ((kR264.gn hS272.grw).gn hS276.grw)
    refine ⟨.agg #[.int .i64 (1 + k121), .int .i64 k128, .bool (decide (0 < k135)), .bool (decide (k142 = 0)), .bool true], resC rfl (resCell_mk (vs := [.int .i64 (1 + k121), .int .i64 k128, .bool (decide (0 < k135)), .bool (decide (k142 = 0)), .bool true]) rt_39 rfl rfl (hS276.blk.rangeL 0 5 rfl)), ⟨1 + k121, k128, decide (0 < k135), decide (k142 = 0), true⟩, (p + 1 + 1 + 1 + 1 + 1 + 1), rfl, show (-1 : Int) ≤ 1 + k121 by omega, show 1 + k121 ≤ (9 : Int) by omega, show (-1 : Int) ≤ k128 by omega, show k128 ≤ (9 : Int) by omega, by omega, by omega, k278, hb277⟩
   ·
    have h279 := of_decide_eq_false h268
    refine wpf_seq_region ?_
    refine wpo_eql (q := decide (k261 = 1)) rfl rfl rfl rfl ?_
    refine wpo_assign (v := .bool (decide (k261 = 1))) rfl rfl ?_
    refine wpo_nil ?_
    refine wpf_cond rfl (fun h280 => ?_) (fun h280 => ?_)
    ·
     have h281 := of_decide_eq_true h280
     refine wpf_region ?_
     refine wpo_buildSlice (ps := [(0, .int .i64 0), (1, .int .i64 9), (2, .int .i64 (-1))]) (e := 3) (cs := (([0, 9, (-1)] : List Int).flatMap icell).toArray) (parts_cons rfl (parts_cons rfl (parts_cons rfl parts_nil))) (fun _ => by kernel_rfl) rfl ?_
     intro B282 w283 hN284
     have hlB282 := hN_ge hN284 hb267
     have lt_R_B282 := hN_gtl hN284 (kR264).lt
     have k285 := (((k152.grown0 hN151.grw).gn hS155.grw).gn hg265)
     have lt_B101_B282 := hN_gtl hN284 (k285).lt
     have k286 := (hS155.blk.gn hg265)
     have lt_B149_B282 := hN_gtl hN284 (k286).lt
     have hb287 := low0 hb267 hN284.grw
     refine wpo_move (v := .pointer (some ⟨R, 0, none⟩)) rfl rfl ?_
     have k288 := (kR264.grown0 hN284.grw)
     refine wpo_call (vs := [.pointer (some ⟨R, 0, none⟩), .int .i64 3]) gf_26 (args_cons rfl (args_cons rfl args_nil)) rfl (pick_c (p + 1 + 1 + 1 + 1 + 1 + 1) 3 (by omega) _ R bs _ _ _ k288 (by omega) (SlLt.low1 hs hb287 hlo) (by first | exact hb | exact fun b h => hb b (List.mem_of_mem_take h)) (by first | omega | (rw [List.length_take]; omega))) ?_
     rintro _ w294 ⟨k289, rfl, hk290, hk291, kR292, hg293⟩
     have hb295 := grown_trans hb287 hg293
     refine wpo_indexAddr (o' := (k289).toNat * 1) es_29 rfl rfl (by omega) (by omega) (by omega) rfl ?_
     have k296 := (hN284.blk.gn hg293)
     obtain ⟨x297, hx298⟩ := get_lt (l := ([0, 9, (-1)] : List Int)) (i := (k289).toNat) (show (k289).toNat < 3 by omega)
     have hm299 := List.mem_of_getElem? hx298
     simp only [List.mem_cons, List.not_mem_nil, or_false] at hm299
     refine wpo_load1 (v := .int .i64 x297) ot_3 rfl ((rows_range wide_int k296 hx298) 0 _ rfl) rfl ?_
     refine wpo_fieldAddr (o' := 0) fo_39_0 rfl rfl rfl ?_
     have k300 := ((k286.grown0 hN284.grw).gn hg293)
     refine wpo_store1 (v := .int .i64 x297) (cs' := #[.int .i64 x297, .int .i64 k128, .bool (decide (0 < k135)), .bool (decide (k142 = 0)), .bool false]) ot_3 rfl rfl rfl k300 (Nat.le_of_ble_eq_true rfl) rfl ?_
     intro w301 hS302
     have hb303 := low1 hb295 hS302.grw (by omega)
     refine wpo_nil ?_
     refine blk_n ?_
     refine thn_n ?_
     refine wpf_seq_region ?_
     refine wpo_loadn (vs := [.int .i64 x297, .int .i64 k128, .bool (decide (0 < k135)), .bool (decide (k142 = 0)), .bool false]) rt_39 rfl rfl (hS302.blk.rangeL 0 5 rfl) rfl ?_
     have k304 := (((k285.grown0 hN284.grw).gn hg293).gn hS302.grw)
     refine wpo_storen (vs := [.int .i64 x297, .int .i64 k128, .bool (decide (0 < k135)), .bool (decide (k142 = 0)), .bool false]) (cs' := #[.int .i64 x297, .int .i64 k128, .bool (decide (0 < k135)), .bool (decide (k142 = 0)), .bool false]) rt_39 rfl rfl rfl (by simp [Value.oneCell']) k304 (Nat.le_of_ble_eq_true rfl) rfl ?_
     intro w305 hS306
     have hb307 := low1 hb303 hS306.grw (by omega)
     refine wpo_nil ?_
     refine wpf_ret ?_
     have k308 := ((kR292.gn hS302.grw).gn hS306.grw)
     refine ⟨.agg #[.int .i64 x297, .int .i64 k128, .bool (decide (0 < k135)), .bool (decide (k142 = 0)), .bool false], resC rfl (resCell_mk (vs := [.int .i64 x297, .int .i64 k128, .bool (decide (0 < k135)), .bool (decide (k142 = 0)), .bool false]) rt_39 rfl rfl (hS306.blk.rangeL 0 5 rfl)), ⟨x297, k128, decide (0 < k135), decide (k142 = 0), false⟩, (p + 1 + 1 + 1 + 1 + 1 + 1 + 1), rfl, show (-1 : Int) ≤ x297 by omega, show x297 ≤ (9 : Int) by omega, show (-1 : Int) ≤ k128 by omega, show k128 ≤ (9 : Int) by omega, by omega, by omega, k308, hb307⟩
    ·
     have h309 := of_decide_eq_false h280
     refine wpf_seq_region ?_
     refine wpo_eql (q := decide (k261 = 2)) rfl rfl rfl rfl ?_
     refine wpo_assign (v := .bool (decide (k261 = 2))) rfl rfl ?_
     refine wpo_nil ?_
     refine wpf_cond rfl (fun h310 => ?_) (fun h310 => ?_)
     ·
      have h311 := of_decide_eq_true h310
      refine wpf_region ?_
      refine wpo_buildSlice (ps := [(0, .int .i64 (-1)), (1, .int .i64 5), (2, .int .i64 6)]) (e := 3) (cs := (([(-1), 5, 6] : List Int).flatMap icell).toArray) (parts_cons rfl (parts_cons rfl (parts_cons rfl parts_nil))) (fun _ => by kernel_rfl) rfl ?_
      intro B312 w313 hN314
      have hlB312 := hN_ge hN314 hb267
      have lt_R_B312 := hN_gtl hN314 (kR264).lt
      have k315 := (((k152.grown0 hN151.grw).gn hS155.grw).gn hg265)
      have lt_B101_B312 := hN_gtl hN314 (k315).lt
      have k316 := (hS155.blk.gn hg265)
      have lt_B149_B312 := hN_gtl hN314 (k316).lt
      have hb317 := low0 hb267 hN314.grw
      refine wpo_move (v := .pointer (some ⟨R, 0, none⟩)) rfl rfl ?_
      have k318 := (kR264.grown0 hN314.grw)
      refine wpo_call (vs := [.pointer (some ⟨R, 0, none⟩), .int .i64 3]) gf_26 (args_cons rfl (args_cons rfl args_nil)) rfl (pick_c (p + 1 + 1 + 1 + 1 + 1 + 1) 3 (by omega) _ R bs _ _ _ k318 (by omega) (SlLt.low1 hs hb317 hlo) (by first | exact hb | exact fun b h => hb b (List.mem_of_mem_take h)) (by first | omega | (rw [List.length_take]; omega))) ?_
      rintro _ w324 ⟨k319, rfl, hk320, hk321, kR322, hg323⟩
      have hb325 := grown_trans hb317 hg323
      refine wpo_indexAddr (o' := (k319).toNat * 1) es_29 rfl rfl (by omega) (by omega) (by omega) rfl ?_
      have k326 := (hN314.blk.gn hg323)
      obtain ⟨x327, hx328⟩ := get_lt (l := ([(-1), 5, 6] : List Int)) (i := (k319).toNat) (show (k319).toNat < 3 by omega)
      have hm329 := List.mem_of_getElem? hx328
      simp only [List.mem_cons, List.not_mem_nil, or_false] at hm329
      refine wpo_load1 (v := .int .i64 x327) ot_3 rfl ((rows_range wide_int k326 hx328) 0 _ rfl) rfl ?_
      refine wpo_fieldAddr (o' := 1) fo_39_1 rfl rfl rfl ?_
      have k330 := ((k316.grown0 hN314.grw).gn hg323)
      refine wpo_store1 (v := .int .i64 x327) (cs' := #[.int .i64 (1 + k121), .int .i64 x327, .bool (decide (0 < k135)), .bool (decide (k142 = 0)), .bool false]) ot_3 rfl rfl rfl k330 (Nat.le_of_ble_eq_true rfl) rfl ?_
      intro w331 hS332
      have hb333 := low1 hb325 hS332.grw (by omega)
      refine wpo_nil ?_
      refine blk_n ?_
      refine thn_n ?_
      refine wpf_seq_region ?_
      refine wpo_loadn (vs := [.int .i64 (1 + k121), .int .i64 x327, .bool (decide (0 < k135)), .bool (decide (k142 = 0)), .bool false]) rt_39 rfl rfl (hS332.blk.rangeL 0 5 rfl) rfl ?_
      have k334 := (((k315.grown0 hN314.grw).gn hg323).gn hS332.grw)
      refine wpo_storen (vs := [.int .i64 (1 + k121), .int .i64 x327, .bool (decide (0 < k135)), .bool (decide (k142 = 0)), .bool false]) (cs' := #[.int .i64 (1 + k121), .int .i64 x327, .bool (decide (0 < k135)), .bool (decide (k142 = 0)), .bool false]) rt_39 rfl rfl rfl (by simp [Value.oneCell']) k334 (Nat.le_of_ble_eq_true rfl) rfl ?_
      intro w335 hS336
      have hb337 := low1 hb333 hS336.grw (by omega)
      refine wpo_nil ?_
      refine wpf_ret ?_
      have k338 := ((kR322.gn hS332.grw).gn hS336.grw)
      refine ⟨.agg #[.int .i64 (1 + k121), .int .i64 x327, .bool (decide (0 < k135)), .bool (decide (k142 = 0)), .bool false], resC rfl (resCell_mk (vs := [.int .i64 (1 + k121), .int .i64 x327, .bool (decide (0 < k135)), .bool (decide (k142 = 0)), .bool false]) rt_39 rfl rfl (hS336.blk.rangeL 0 5 rfl)), ⟨1 + k121, x327, decide (0 < k135), decide (k142 = 0), false⟩, (p + 1 + 1 + 1 + 1 + 1 + 1 + 1), rfl, show (-1 : Int) ≤ 1 + k121 by omega, show 1 + k121 ≤ (9 : Int) by omega, show (-1 : Int) ≤ x327 by omega, show x327 ≤ (9 : Int) by omega, by omega, by omega, k338, hb337⟩
     ·
      have h339 := of_decide_eq_false h310
      refine wpf_skip ?_
      refine blk_n ?_
      refine thn_n ?_
      refine wpf_seq_region ?_
      have k340 := (hS155.blk.gn hg265)
      refine wpo_loadn (vs := [.int .i64 (1 + k121), .int .i64 k128, .bool (decide (0 < k135)), .bool (decide (k142 = 0)), .bool false]) rt_39 rfl rfl (k340.rangeL 0 5 rfl) rfl ?_
      have k341 := (((k152.grown0 hN151.grw).gn hS155.grw).gn hg265)
      refine wpo_storen (vs := [.int .i64 (1 + k121), .int .i64 k128, .bool (decide (0 < k135)), .bool (decide (k142 = 0)), .bool false]) (cs' := #[.int .i64 (1 + k121), .int .i64 k128, .bool (decide (0 < k135)), .bool (decide (k142 = 0)), .bool false]) rt_39 rfl rfl rfl (by simp [Value.oneCell']) k341 (Nat.le_of_ble_eq_true rfl) rfl ?_
      intro w342 hS343
      have hb344 := low1 hb267 hS343.grw (by omega)
      refine wpo_nil ?_
      refine wpf_ret ?_
      have k345 := (kR264.gn hS343.grw)
      refine ⟨.agg #[.int .i64 (1 + k121), .int .i64 k128, .bool (decide (0 < k135)), .bool (decide (k142 = 0)), .bool false], resC rfl (resCell_mk (vs := [.int .i64 (1 + k121), .int .i64 k128, .bool (decide (0 < k135)), .bool (decide (k142 = 0)), .bool false]) rt_39 rfl rfl (hS343.blk.rangeL 0 5 rfl)), ⟨1 + k121, k128, decide (0 < k135), decide (k142 = 0), false⟩, (p + 1 + 1 + 1 + 1 + 1 + 1), rfl, show (-1 : Int) ≤ 1 + k121 by omega, show 1 + k121 ≤ (9 : Int) by omega, show (-1 : Int) ≤ k128 by omega, show k128 ≤ (9 : Int) by omega, by omega, by omega, k345, hb344⟩

theorem l6Open_c (bs : List Int) (a : Option Addr) (c : Nat) (w : World) (hn : bs.length ≤ 1048576) (hc : bs.length ≤ c) : CallsR Tryd.prog 13 #[.slice a bs.length c] w (fun v w' => ∃ R : Nat, v = .pointer (some ⟨R, 0, none⟩) ∧ w.heap.size ≤ R ∧ Blk w' R 56 #[.slice a (bs.take 2000).length c, .int .i64 0] ∧ w.grownBy w' none) := by
 refine calls_of_wpf (n := 11) Tryd.func13 rfl Tryd.ntmps13 rfl ?_
 have hb0 := World.grownBy.refl w none
 refine wpf_seq_region ?_
 refine wpo_assign (v := .pointer none) rfl rfl ?_
 refine wpo_nil ?_
 refine wpf_seq ?_
 refine wpf_seq_region ?_
 refine wpo_move (v := .slice a bs.length c) rfl rfl ?_
 refine wpo_len (by kernel_rfl) rfl rfl ?_
 refine wpo_gtr (q := decide (2000 < (bs.length : Int))) rfl rfl rfl rfl ?_
 refine wpo_nil ?_
 refine wpf_cond rfl (fun h101 => ?_) (fun h101 => ?_)
 ·
  have h102 := of_decide_eq_true h101
  refine wpf_region ?_
  refine wpo_move (v := .slice a bs.length c) rfl rfl ?_
  refine wpo_cut (e := 5) (sz := 1) (h := 2000) (by kernel_rfl) (by kernel_rfl) rfl rfl (by omega) rfl ?_
  refine wpo_assign (v := .slice a 2000 c) rfl rfl ?_
  refine wpo_nil ?_
  refine thn_n ?_
  refine wpf_seq_region ?_
  refine wpo_move (v := .slice a 2000 c) rfl rfl ?_
  refine wpo_build (ps := [(0, .slice a 2000 c)]) (v := .agg #[.slice a 2000 c, .int .i64 0]) (parts_cons rfl parts_nil) (by kernel_rfl) rfl ?_
  refine wpo_box (v := .agg #[.slice a 2000 c, .int .i64 0]) (cs := #[.slice a 2000 c, .int .i64 0]) rfl rfl rfl ?_
  intro B103 w104 hN105
  have hlB103 := hN_ge hN105 hb0
  have hb106 := low0 hb0 hN105.grw
  refine wpo_assign (v := .pointer (some ⟨B103, 0, none⟩)) rfl rfl ?_
  refine wpo_nil ?_
  refine wpf_ret ?_
  have hlen : 2000 = (bs.take 2000).length := by rw [List.length_take]; omega
  have kk := hN105.blk
  rw [hlen] at kk
  refine ⟨.pointer (some ⟨B103, 0, none⟩), res1 rfl rfl, B103, rfl, hlB103, kk, hb106⟩
 ·
  have h107 := of_decide_eq_false h101
  refine wpf_skip ?_
  refine thn_n ?_
  refine wpf_seq_region ?_
  refine wpo_move (v := .slice a bs.length c) rfl rfl ?_
  refine wpo_build (ps := [(0, .slice a bs.length c)]) (v := .agg #[.slice a bs.length c, .int .i64 0]) (parts_cons rfl parts_nil) (by kernel_rfl) rfl ?_
  refine wpo_box (v := .agg #[.slice a bs.length c, .int .i64 0]) (cs := #[.slice a bs.length c, .int .i64 0]) rfl rfl rfl ?_
  intro B108 w109 hN110
  have hlB108 := hN_ge hN110 hb0
  have hb111 := low0 hb0 hN110.grw
  refine wpo_assign (v := .pointer (some ⟨B108, 0, none⟩)) rfl rfl ?_
  refine wpo_nil ?_
  refine wpf_ret ?_
  have hlen : bs.length = (bs.take 2000).length := by rw [List.length_take]; omega
  have kk := hN110.blk
  rw [hlen] at kk
  refine ⟨.pointer (some ⟨B108, 0, none⟩), res1 rfl rfl, B108, rfl, hlB108, kk, hb111⟩

end Go.Proofs.YtemimomfjapgiaaDoor
