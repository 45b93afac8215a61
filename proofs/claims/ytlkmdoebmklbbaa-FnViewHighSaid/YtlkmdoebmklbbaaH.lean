/- Walks, printed by a program of mine (gen.py) out of the functions. -/
import Derived.Test.YtlkmdoebmklbbaaT
namespace Go.Proofs.Ytlkmdoebmklbbaa
open Go.RowKit Go.Dw
set_option maxRecDepth 100000
set_option maxHeartbeats 4000000
set_option linter.unusedSimpArgs false
set_option linter.unusedVariables false
theorem gf_65 : goFn Try.prog 65 = true := by kernel_rfl
theorem l71Label_c (p : Int) (hp : 0 ≤ p ∧ p ≤ 1000000000000) (lo R : Nat) (bs : List Int) (a : Option Addr) (c : Nat) (w : World) (hR : Blk w R 121 #[.slice a bs.length c, .int .i64 p]) (hlo : lo ≤ R) (hs : SlLt lo w a 1 (bs.map bcell)) (hb : ∀ b ∈ bs, 0 ≤ b ∧ b ≤ 255) (hn : bs.length ≤ 1048576) : CallsR Try.prog 65 #[.pointer (some ⟨R, 0, none⟩)] w (fun v w' => ∃ (l : Lab) (p' : Int), v = .agg #[.int .i64 l.s, .int .i64 l.v] ∧ -1 ≤ l.s ∧ l.s ≤ 4 ∧ 0 ≤ l.v ∧ l.v ≤ 3 ∧ p ≤ p' ∧ p' ≤ p + 4 ∧ Blk w' R 121 #[.slice a bs.length c, .int .i64 p'] ∧ w.grownBy w' (some R)) := by
 refine calls_of_wpf (n := 25) Try.func65 rfl Try.ntmps65 rfl ?_
 have hb0 := World.grownBy.refl w (some R)
 have hRlt := hR.lt
 refine wpf_seq_region ?_
 refine wpo_alloc (cs := #[.int .i64 0, .int .i64 0]) zt_40 rfl rfl ?_
 intro B5158 w5159 hN5160
 have hlB5158 := hN_ge hN5160 hb0
 have lt_R_B5158 := hN_gtl hN5160 (hR).lt
 have hb5161 := low0 hb0 hN5160.grw
 refine wpo_nil ?_
 refine wpf_seq ?_
 have k5328 := (hR.grown0 hN5160.grw)
 refine wpf_drawI (m := 12) [[], [], [1], [0, 1, 2], [0, 1, 2, 3], [], [], [1, 2, 6], [1, 2, 5, 6, 7], [1, 2, 5, 6, 7, 8], [0, 1, 2, 3, 4, 5, 6, 7, 8, 9], [], [0, 1, 2, 3, 4, 5, 6, 7, 8, 9, 10, 11]] (fun S F w' => ∃ (B5288 : Nat) (k5294 : Int) (x5302 : Int) (B5305 : Nat) (k5311 : Int) (x5319 : Int) (B5322 : Nat), w5159.grownBy w' (some R) ∧ F 0 = .pointer (some ⟨R, 0, none⟩) ∧ F 2 = .pointer (some ⟨B5158, 0, none⟩) ∧ (S 2 = false → Blk w' R 121 #[.slice a bs.length c, .int .i64 p]) ∧ (S 0 = true → F 4 = .slice (some ⟨B5288, 0, none⟩) 5 5 ∧ w.heap.size ≤ B5288 ∧ Blk w' B5288 3 (([0, 0, 1, 2, 3] : List Int).flatMap icell).toArray ∧ R < B5288 ∧ B5158 < B5288 ∧ w5159.heap.size ≤ B5288) ∧ (S 1 = true → F 5 = .pointer (some ⟨R, 0, none⟩)) ∧ (S 2 = true → F 6 = .int .i64 k5294 ∧ 0 ≤ k5294 ∧ (k5294 < 5 ∨ k5294 = 0) ∧ (S 7 = false → Blk w' R 121 #[.slice a bs.length c, .int .i64 (p + 1)])) ∧ (S 3 = true → F 7 = .pointer (some ⟨B5288, (k5294).toNat * 1, none⟩)) ∧ (S 4 = true → F 8 = .int .i64 x5302 ∧ ([0, 0, 1, 2, 3] : List Int)[(k5294).toNat]? = some x5302 ∧ (x5302 = 0 ∨ x5302 = 0 ∨ x5302 = 1 ∨ x5302 = 2 ∨ x5302 = 3)) ∧ (S 5 = true → F 9 = .slice (some ⟨B5305, 0, none⟩) 4 4 ∧ w.heap.size ≤ B5305 ∧ Blk w' B5305 3 (([0, 0, 3, 1] : List Int).flatMap icell).toArray ∧ R < B5305 ∧ B5158 < B5305 ∧ w5159.heap.size ≤ B5305) ∧ (S 6 = true → F 10 = .pointer (some ⟨R, 0, none⟩)) ∧ (S 7 = true → F 11 = .int .i64 k5311 ∧ 0 ≤ k5311 ∧ (k5311 < 4 ∨ k5311 = 0) ∧ Blk w' R 121 #[.slice a bs.length c, .int .i64 (p + 1 + 1)]) ∧ (S 8 = true → F 12 = .pointer (some ⟨B5305, (k5311).toNat * 1, none⟩)) ∧ (S 9 = true → F 13 = .int .i64 x5319 ∧ ([0, 0, 3, 1] : List Int)[(k5311).toNat]? = some x5319 ∧ (x5319 = 0 ∨ x5319 = 0 ∨ x5319 = 3 ∨ x5319 = 1)) ∧ (S 10 = true → F 14 = .agg #[.int .i64 x5302, .int .i64 x5319]) ∧ (S 11 = true → F 3 = .pointer (some ⟨B5322, 0, none⟩) ∧ w.heap.size ≤ B5322 ∧ Blk w' B5322 40 #[.int .i64 0, .int .i64 0] ∧ R < B5322 ∧ B5158 < B5322 ∧ w5159.heap.size ≤ B5322) ∧ (S 0 = true → S 5 = true → B5288 ≠ B5305) ∧ (S 0 = true → S 11 = true → B5288 ≠ B5322) ∧ (S 5 = true → S 11 = true → B5305 ≠ B5322)) mixed_ (by kernel_rfl) ⟨0, 0, 0, 0, 0, 0, 0, grown_drew _, rfl, rfl, fun _ => (k5328).grown0 (grown_drew _), fun h => not_begun h, fun h => not_begun h, fun h => not_begun h, fun h => not_begun h, fun h => not_begun h, fun h => not_begun h, fun h => not_begun h, fun h => not_begun h, fun h => not_begun h, fun h => not_begun h, fun h => not_begun h, fun h => not_begun h, fun h => not_begun h, fun h => not_begun h, fun h => not_begun h⟩ ?_ ?_
 ·
  refine preL_cons (fun S F w5329 hS hbef hcl hI => ?_) ?_
  ·
   obtain ⟨B5288, k5294, x5302, B5305, k5311, x5319, B5322, hi5330, e5331, e5332, c_old_R, c_0, c_1, c_2, c_3, c_4, c_5, c_6, c_7, c_8, c_9, c_10, c_11, pr_B5288_B5305, pr_B5288_B5322, pr_B5305_B5322⟩ := hI
   have hb5333 := grown_trans hb5161 hi5330
   refine wpo_buildSlice (ps := [(0, .int .i64 0), (1, .int .i64 0), (2, .int .i64 1), (3, .int .i64 2), (4, .int .i64 3)]) (e := 3) (cs := (([0, 0, 1, 2, 3] : List Int).flatMap icell).toArray) (parts_cons rfl (parts_cons rfl (parts_cons rfl (parts_cons rfl (parts_cons rfl parts_nil))))) (fun _ => by kernel_rfl) rfl ?_
   intro B5334 w5335 hN5336
   have hlB5334 := hN_ge hN5336 hb5333
   have k5337 := (hN5160.blk.grown hi5330 (some_ne (by omega)))
   have lt_B5158_B5334 := hN_gtl hN5336 (k5337).lt
   have hb5338 := low0 hb5333 hN5336.grw
   exact wpo_nil ⟨B5334, k5294, x5302, B5305, k5311, x5319, B5322, (low0 hi5330 hN5336.grw), e5331, e5332, fun h => (c_old_R h).grown0 hN5336.grw, fun _ => ⟨rfl, hlB5334, hN5336.blk, (by omega), lt_B5158_B5334, (Nat.le_trans hi5330.size (Nat.le_of_eq hN5336.eq.symm))⟩, c_1, fun h => let ⟨y5339, y5340, y5341, y5342⟩ := c_2 h; ⟨y5339, y5340, y5341, fun hn => (y5342 hn).grown0 hN5336.grw⟩, fun h => undone 3 hS hcl rfl h, fun h => undone 4 hS hcl rfl h, fun h => let ⟨y5343, y5344, y5345, y5346, y5347, y5348⟩ := c_5 h; ⟨y5343, y5344, (y5345).grown0 hN5336.grw, y5346, y5347, y5348⟩, c_6, fun h => let ⟨y5349, y5350, y5351, y5352⟩ := c_7 h; ⟨y5349, y5350, y5351, (y5352).grown0 hN5336.grw⟩, c_8, c_9, fun h => undone 10 hS hcl rfl h, fun h => let ⟨y5353, y5354, y5355, y5356, y5357, y5358⟩ := c_11 h; ⟨y5353, y5354, (y5355).grown0 hN5336.grw, y5356, y5357, y5358⟩, fun _ h => let ⟨y5359, y5360, y5361, y5362, y5363, y5364⟩ := c_5 h; Nat.ne_of_gt (Nat.lt_of_lt_of_le (Blk.lt y5361) (Nat.le_of_eq hN5336.eq.symm)), fun _ h => let ⟨y5365, y5366, y5367, y5368, y5369, y5370⟩ := c_11 h; Nat.ne_of_gt (Nat.lt_of_lt_of_le (Blk.lt y5367) (Nat.le_of_eq hN5336.eq.symm)), pr_B5305_B5322⟩
  refine preL_cons (fun S F w5371 hS hbef hcl hI => ?_) ?_
  ·
   obtain ⟨B5288, k5294, x5302, B5305, k5311, x5319, B5322, hi5372, e5373, e5374, c_old_R, c_0, c_1, c_2, c_3, c_4, c_5, c_6, c_7, c_8, c_9, c_10, c_11, pr_B5288_B5305, pr_B5288_B5322, pr_B5305_B5322⟩ := hI
   have hb5375 := grown_trans hb5161 hi5372
   refine wpo_move (v := .pointer (some ⟨R, 0, none⟩)) e5373 rfl ?_
   exact wpo_nil ⟨B5288, k5294, x5302, B5305, k5311, x5319, B5322, hi5372, e5373, e5374, fun h => c_old_R h, c_0, fun _ => rfl, fun h => undone 2 hS hcl rfl h, fun h => undone 3 hS hcl rfl h, fun h => undone 4 hS hcl rfl h, c_5, c_6, fun h => undone 7 hS hcl rfl h, fun h => undone 8 hS hcl rfl h, fun h => undone 9 hS hcl rfl h, fun h => undone 10 hS hcl rfl h, c_11, pr_B5288_B5305, pr_B5288_B5322, pr_B5305_B5322⟩
  refine preL_cons (fun S F w5376 hS hbef hcl hI => ?_) ?_
  ·
   obtain ⟨B5288, k5294, x5302, B5305, k5311, x5319, B5322, hi5377, e5378, e5379, c_old_R, c_0, c_1, c_2, c_3, c_4, c_5, c_6, c_7, c_8, c_9, c_10, c_11, pr_B5288_B5305, pr_B5288_B5322, pr_B5305_B5322⟩ := hI
   have hb5380 := grown_trans hb5161 hi5377
   obtain e5381 := c_1 (ready_of 1 hbef rfl)
   refine wpo_call (vs := [.pointer (some ⟨R, 0, none⟩), .int .i64 5]) gf_60 (args_cons e5381 (args_cons rfl args_nil)) rfl (pick_c p 5 (by omega) _ R bs _ _ _ (c_old_R hS) (by omega) (SlLt.low1 hs hb5380 hlo) (by first | exact hb | exact fun b h => hb b (List.mem_of_mem_take h)) (by first | omega | (rw [List.length_take]; omega))) ?_
   rintro _ w5387 ⟨k5382, rfl, hk5383, hk5384, kR5385, hg5386⟩
   have hb5388 := grown_trans hb5380 hg5386
   exact wpo_nil ⟨B5288, k5382, x5302, B5305, k5311, x5319, B5322, (grown_trans hi5377 hg5386), e5378, e5379, fun h => not_open h, fun h => let ⟨y5389, y5390, y5391, y5392, y5393, y5394⟩ := c_0 h; ⟨y5389, y5390, (y5391).grown hg5386 (some_ne (by omega)), y5392, y5393, y5394⟩, c_1, fun _ => ⟨rfl, hk5383, hk5384, fun _ => kR5385⟩, fun h => undone 3 hS hcl rfl h, fun h => undone 4 hS hcl rfl h, fun h => let ⟨y5395, y5396, y5397, y5398, y5399, y5400⟩ := c_5 h; ⟨y5395, y5396, (y5397).grown hg5386 (some_ne (by omega)), y5398, y5399, y5400⟩, c_6, fun h => undone 7 hS hcl rfl h, fun h => undone 8 hS hcl rfl h, fun h => undone 9 hS hcl rfl h, fun h => undone 10 hS hcl rfl h, fun h => let ⟨y5401, y5402, y5403, y5404, y5405, y5406⟩ := c_11 h; ⟨y5401, y5402, (y5403).grown hg5386 (some_ne (by omega)), y5404, y5405, y5406⟩, pr_B5288_B5305, pr_B5288_B5322, pr_B5305_B5322⟩
  refine preL_cons (fun S F w5407 hS hbef hcl hI => ?_) ?_
  ·
   obtain ⟨B5288, k5294, x5302, B5305, k5311, x5319, B5322, hi5408, e5409, e5410, c_old_R, c_0, c_1, c_2, c_3, c_4, c_5, c_6, c_7, c_8, c_9, c_10, c_11, pr_B5288_B5305, pr_B5288_B5322, pr_B5305_B5322⟩ := hI
   have hb5411 := grown_trans hb5161 hi5408
   obtain ⟨e5412, hlB5288, kb_B5288, lt_R_B5288, lt_B5158_B5288, hk_B5288⟩ := c_0 (ready_of 0 hbef rfl)
   obtain e5413 := c_1 (ready_of 1 hbef rfl)
   obtain ⟨e5414, hk5295, hk5296, ks2_R⟩ := c_2 (ready_of 2 hbef rfl)
   refine wpo_indexAddr (o' := (k5294).toNat * 1) es_43 e5412 e5414 (by omega) (by omega) (by omega) rfl ?_
   exact wpo_nil ⟨B5288, k5294, x5302, B5305, k5311, x5319, B5322, hi5408, e5409, e5410, fun hn => not_open ((ready_of 2 hbef rfl).symm.trans hn), c_0, c_1, c_2, fun _ => rfl, fun h => undone 4 hS hcl rfl h, c_5, c_6, c_7, c_8, c_9, fun h => undone 10 hS hcl rfl h, c_11, pr_B5288_B5305, pr_B5288_B5322, pr_B5305_B5322⟩
  refine preL_cons (fun S F w5415 hS hbef hcl hI => ?_) ?_
  ·
   obtain ⟨B5288, k5294, x5302, B5305, k5311, x5319, B5322, hi5416, e5417, e5418, c_old_R, c_0, c_1, c_2, c_3, c_4, c_5, c_6, c_7, c_8, c_9, c_10, c_11, pr_B5288_B5305, pr_B5288_B5322, pr_B5305_B5322⟩ := hI
   have hb5419 := grown_trans hb5161 hi5416
   obtain ⟨e5420, hlB5288, kb_B5288, lt_R_B5288, lt_B5158_B5288, hk_B5288⟩ := c_0 (ready_of 0 hbef rfl)
   obtain e5421 := c_1 (ready_of 1 hbef rfl)
   obtain ⟨e5422, hk5295, hk5296, ks2_R⟩ := c_2 (ready_of 2 hbef rfl)
   obtain e5423 := c_3 (ready_of 3 hbef rfl)
   obtain ⟨x5424, hx5425⟩ := get_lt (l := ([0, 0, 1, 2, 3] : List Int)) (i := (k5294).toNat) (show (k5294).toNat < 5 by omega)
   have hm5426 := List.mem_of_getElem? hx5425
   simp only [List.mem_cons, List.not_mem_nil, or_false] at hm5426
   refine wpo_load1 (v := .int .i64 x5424) ot_3 e5423 ((rows_range wide_int kb_B5288 hx5425) 0 _ rfl) rfl ?_
   exact wpo_nil ⟨B5288, k5294, x5424, B5305, k5311, x5319, B5322, hi5416, e5417, e5418, fun hn => not_open ((ready_of 2 hbef rfl).symm.trans hn), c_0, c_1, c_2, c_3, fun _ => ⟨rfl, hx5425, hm5426⟩, c_5, c_6, c_7, c_8, c_9, fun h => undone 10 hS hcl rfl h, c_11, pr_B5288_B5305, pr_B5288_B5322, pr_B5305_B5322⟩
  refine preL_cons (fun S F w5427 hS hbef hcl hI => ?_) ?_
  ·
   obtain ⟨B5288, k5294, x5302, B5305, k5311, x5319, B5322, hi5428, e5429, e5430, c_old_R, c_0, c_1, c_2, c_3, c_4, c_5, c_6, c_7, c_8, c_9, c_10, c_11, pr_B5288_B5305, pr_B5288_B5322, pr_B5305_B5322⟩ := hI
   have hb5431 := grown_trans hb5161 hi5428
   refine wpo_buildSlice (ps := [(0, .int .i64 0), (1, .int .i64 0), (2, .int .i64 3), (3, .int .i64 1)]) (e := 3) (cs := (([0, 0, 3, 1] : List Int).flatMap icell).toArray) (parts_cons rfl (parts_cons rfl (parts_cons rfl (parts_cons rfl parts_nil)))) (fun _ => by kernel_rfl) rfl ?_
   intro B5432 w5433 hN5434
   have hlB5432 := hN_ge hN5434 hb5431
   have k5435 := (hN5160.blk.grown hi5428 (some_ne (by omega)))
   have lt_B5158_B5432 := hN_gtl hN5434 (k5435).lt
   have hb5436 := low0 hb5431 hN5434.grw
   exact wpo_nil ⟨B5288, k5294, x5302, B5432, k5311, x5319, B5322, (low0 hi5428 hN5434.grw), e5429, e5430, fun h => (c_old_R h).grown0 hN5434.grw, fun h => let ⟨y5437, y5438, y5439, y5440, y5441, y5442⟩ := c_0 h; ⟨y5437, y5438, (y5439).grown0 hN5434.grw, y5440, y5441, y5442⟩, c_1, fun h => let ⟨y5443, y5444, y5445, y5446⟩ := c_2 h; ⟨y5443, y5444, y5445, fun hn => (y5446 hn).grown0 hN5434.grw⟩, c_3, c_4, fun _ => ⟨rfl, hlB5432, hN5434.blk, (by omega), lt_B5158_B5432, (Nat.le_trans hi5428.size (Nat.le_of_eq hN5434.eq.symm))⟩, c_6, fun h => let ⟨y5447, y5448, y5449, y5450⟩ := c_7 h; ⟨y5447, y5448, y5449, (y5450).grown0 hN5434.grw⟩, fun h => undone 8 hS hcl rfl h, fun h => undone 9 hS hcl rfl h, fun h => undone 10 hS hcl rfl h, fun h => let ⟨y5451, y5452, y5453, y5454, y5455, y5456⟩ := c_11 h; ⟨y5451, y5452, (y5453).grown0 hN5434.grw, y5454, y5455, y5456⟩, fun h _ => let ⟨y5457, y5458, y5459, y5460, y5461, y5462⟩ := c_0 h; Nat.ne_of_lt (Nat.lt_of_lt_of_le (Blk.lt y5459) (Nat.le_of_eq hN5434.eq.symm)), pr_B5288_B5322, fun _ h => let ⟨y5463, y5464, y5465, y5466, y5467, y5468⟩ := c_11 h; Nat.ne_of_gt (Nat.lt_of_lt_of_le (Blk.lt y5465) (Nat.le_of_eq hN5434.eq.symm))⟩
  refine preL_cons (fun S F w5469 hS hbef hcl hI => ?_) ?_
  ·
   obtain ⟨B5288, k5294, x5302, B5305, k5311, x5319, B5322, hi5470, e5471, e5472, c_old_R, c_0, c_1, c_2, c_3, c_4, c_5, c_6, c_7, c_8, c_9, c_10, c_11, pr_B5288_B5305, pr_B5288_B5322, pr_B5305_B5322⟩ := hI
   have hb5473 := grown_trans hb5161 hi5470
   refine wpo_move (v := .pointer (some ⟨R, 0, none⟩)) e5471 rfl ?_
   exact wpo_nil ⟨B5288, k5294, x5302, B5305, k5311, x5319, B5322, hi5470, e5471, e5472, fun h => c_old_R h, c_0, c_1, c_2, c_3, c_4, c_5, fun _ => rfl, fun h => undone 7 hS hcl rfl h, fun h => undone 8 hS hcl rfl h, fun h => undone 9 hS hcl rfl h, fun h => undone 10 hS hcl rfl h, c_11, pr_B5288_B5305, pr_B5288_B5322, pr_B5305_B5322⟩
  refine preL_cons (fun S F w5474 hS hbef hcl hI => ?_) ?_
  ·
   obtain ⟨B5288, k5294, x5302, B5305, k5311, x5319, B5322, hi5475, e5476, e5477, c_old_R, c_0, c_1, c_2, c_3, c_4, c_5, c_6, c_7, c_8, c_9, c_10, c_11, pr_B5288_B5305, pr_B5288_B5322, pr_B5305_B5322⟩ := hI
   have hb5478 := grown_trans hb5161 hi5475
   obtain e5479 := c_1 (ready_of 1 hbef rfl)
   obtain ⟨e5480, hk5295, hk5296, ks2_R⟩ := c_2 (ready_of 2 hbef rfl)
   obtain e5481 := c_6 (ready_of 6 hbef rfl)
   refine wpo_call (vs := [.pointer (some ⟨R, 0, none⟩), .int .i64 4]) gf_60 (args_cons e5481 (args_cons rfl args_nil)) rfl (pick_c (p + 1) 4 (by omega) _ R bs _ _ _ (ks2_R hS) (by omega) (SlLt.low1 hs hb5478 hlo) (by first | exact hb | exact fun b h => hb b (List.mem_of_mem_take h)) (by first | omega | (rw [List.length_take]; omega))) ?_
   rintro _ w5487 ⟨k5482, rfl, hk5483, hk5484, kR5485, hg5486⟩
   have hb5488 := grown_trans hb5478 hg5486
   exact wpo_nil ⟨B5288, k5294, x5302, B5305, k5482, x5319, B5322, (grown_trans hi5475 hg5486), e5476, e5477, fun hn => not_open ((ready_of 2 hbef rfl).symm.trans hn), fun h => let ⟨y5489, y5490, y5491, y5492, y5493, y5494⟩ := c_0 h; ⟨y5489, y5490, (y5491).grown hg5486 (some_ne (by omega)), y5492, y5493, y5494⟩, c_1, fun h => let ⟨y5495, y5496, y5497, y5498⟩ := c_2 h; ⟨y5495, y5496, y5497, fun h => not_open h⟩, c_3, c_4, fun h => let ⟨y5499, y5500, y5501, y5502, y5503, y5504⟩ := c_5 h; ⟨y5499, y5500, (y5501).grown hg5486 (some_ne (by omega)), y5502, y5503, y5504⟩, c_6, fun _ => ⟨rfl, hk5483, hk5484, kR5485⟩, fun h => undone 8 hS hcl rfl h, fun h => undone 9 hS hcl rfl h, fun h => undone 10 hS hcl rfl h, fun h => let ⟨y5505, y5506, y5507, y5508, y5509, y5510⟩ := c_11 h; ⟨y5505, y5506, (y5507).grown hg5486 (some_ne (by omega)), y5508, y5509, y5510⟩, pr_B5288_B5305, pr_B5288_B5322, pr_B5305_B5322⟩
  refine preL_cons (fun S F w5511 hS hbef hcl hI => ?_) ?_
  ·
   obtain ⟨B5288, k5294, x5302, B5305, k5311, x5319, B5322, hi5512, e5513, e5514, c_old_R, c_0, c_1, c_2, c_3, c_4, c_5, c_6, c_7, c_8, c_9, c_10, c_11, pr_B5288_B5305, pr_B5288_B5322, pr_B5305_B5322⟩ := hI
   have hb5515 := grown_trans hb5161 hi5512
   obtain e5516 := c_1 (ready_of 1 hbef rfl)
   obtain ⟨e5517, hk5295, hk5296, ks2_R⟩ := c_2 (ready_of 2 hbef rfl)
   obtain ⟨e5518, hlB5305, kb_B5305, lt_R_B5305, lt_B5158_B5305, hk_B5305⟩ := c_5 (ready_of 5 hbef rfl)
   obtain e5519 := c_6 (ready_of 6 hbef rfl)
   obtain ⟨e5520, hk5312, hk5313, ks7_R⟩ := c_7 (ready_of 7 hbef rfl)
   refine wpo_indexAddr (o' := (k5311).toNat * 1) es_43 e5518 e5520 (by omega) (by omega) (by omega) rfl ?_
   exact wpo_nil ⟨B5288, k5294, x5302, B5305, k5311, x5319, B5322, hi5512, e5513, e5514, fun hn => not_open ((ready_of 2 hbef rfl).symm.trans hn), c_0, c_1, c_2, c_3, c_4, c_5, c_6, c_7, fun _ => rfl, fun h => undone 9 hS hcl rfl h, fun h => undone 10 hS hcl rfl h, c_11, pr_B5288_B5305, pr_B5288_B5322, pr_B5305_B5322⟩
  refine preL_cons (fun S F w5521 hS hbef hcl hI => ?_) ?_
  ·
   obtain ⟨B5288, k5294, x5302, B5305, k5311, x5319, B5322, hi5522, e5523, e5524, c_old_R, c_0, c_1, c_2, c_3, c_4, c_5, c_6, c_7, c_8, c_9, c_10, c_11, pr_B5288_B5305, pr_B5288_B5322, pr_B5305_B5322⟩ := hI
   have hb5525 := grown_trans hb5161 hi5522
   obtain e5526 := c_1 (ready_of 1 hbef rfl)
   obtain ⟨e5527, hk5295, hk5296, ks2_R⟩ := c_2 (ready_of 2 hbef rfl)
   obtain ⟨e5528, hlB5305, kb_B5305, lt_R_B5305, lt_B5158_B5305, hk_B5305⟩ := c_5 (ready_of 5 hbef rfl)
   obtain e5529 := c_6 (ready_of 6 hbef rfl)
   obtain ⟨e5530, hk5312, hk5313, ks7_R⟩ := c_7 (ready_of 7 hbef rfl)
   obtain e5531 := c_8 (ready_of 8 hbef rfl)
   obtain ⟨x5532, hx5533⟩ := get_lt (l := ([0, 0, 3, 1] : List Int)) (i := (k5311).toNat) (show (k5311).toNat < 4 by omega)
   have hm5534 := List.mem_of_getElem? hx5533
   simp only [List.mem_cons, List.not_mem_nil, or_false] at hm5534
   refine wpo_load1 (v := .int .i64 x5532) ot_3 e5531 ((rows_range wide_int kb_B5305 hx5533) 0 _ rfl) rfl ?_
   exact wpo_nil ⟨B5288, k5294, x5302, B5305, k5311, x5532, B5322, hi5522, e5523, e5524, fun hn => not_open ((ready_of 2 hbef rfl).symm.trans hn), c_0, c_1, c_2, c_3, c_4, c_5, c_6, c_7, c_8, fun _ => ⟨rfl, hx5533, hm5534⟩, fun h => undone 10 hS hcl rfl h, c_11, pr_B5288_B5305, pr_B5288_B5322, pr_B5305_B5322⟩
  refine preL_cons (fun S F w5535 hS hbef hcl hI => ?_) ?_
  ·
   obtain ⟨B5288, k5294, x5302, B5305, k5311, x5319, B5322, hi5536, e5537, e5538, c_old_R, c_0, c_1, c_2, c_3, c_4, c_5, c_6, c_7, c_8, c_9, c_10, c_11, pr_B5288_B5305, pr_B5288_B5322, pr_B5305_B5322⟩ := hI
   have hb5539 := grown_trans hb5161 hi5536
   obtain ⟨e5540, hlB5288, kb_B5288, lt_R_B5288, lt_B5158_B5288, hk_B5288⟩ := c_0 (ready_of 0 hbef rfl)
   obtain e5541 := c_1 (ready_of 1 hbef rfl)
   obtain ⟨e5542, hk5295, hk5296, ks2_R⟩ := c_2 (ready_of 2 hbef rfl)
   obtain e5543 := c_3 (ready_of 3 hbef rfl)
   obtain ⟨e5544, hx5303, hm5304⟩ := c_4 (ready_of 4 hbef rfl)
   obtain ⟨e5545, hlB5305, kb_B5305, lt_R_B5305, lt_B5158_B5305, hk_B5305⟩ := c_5 (ready_of 5 hbef rfl)
   obtain e5546 := c_6 (ready_of 6 hbef rfl)
   obtain ⟨e5547, hk5312, hk5313, ks7_R⟩ := c_7 (ready_of 7 hbef rfl)
   obtain e5548 := c_8 (ready_of 8 hbef rfl)
   obtain ⟨e5549, hx5320, hm5321⟩ := c_9 (ready_of 9 hbef rfl)
   have ne_B5288_B5305 := pr_B5288_B5305 (ready_of 0 hbef rfl) (ready_of 5 hbef rfl)
   refine wpo_build (ps := [(0, .int .i64 x5302), (1, .int .i64 x5319)]) (v := .agg #[.int .i64 x5302, .int .i64 x5319]) (parts_cons e5544 (parts_cons e5549 parts_nil)) (by kernel_rfl) rfl ?_
   exact wpo_nil ⟨B5288, k5294, x5302, B5305, k5311, x5319, B5322, hi5536, e5537, e5538, fun hn => not_open ((ready_of 2 hbef rfl).symm.trans hn), c_0, c_1, c_2, c_3, c_4, c_5, c_6, c_7, c_8, c_9, fun _ => rfl, c_11, pr_B5288_B5305, pr_B5288_B5322, pr_B5305_B5322⟩
  refine preL_cons (fun S F w5550 hS hbef hcl hI => ?_) ?_
  ·
   obtain ⟨B5288, k5294, x5302, B5305, k5311, x5319, B5322, hi5551, e5552, e5553, c_old_R, c_0, c_1, c_2, c_3, c_4, c_5, c_6, c_7, c_8, c_9, c_10, c_11, pr_B5288_B5305, pr_B5288_B5322, pr_B5305_B5322⟩ := hI
   have hb5554 := grown_trans hb5161 hi5551
   refine wpo_alloc (cs := #[.int .i64 0, .int .i64 0]) zt_40 rfl rfl ?_
   intro B5555 w5556 hN5557
   have hlB5555 := hN_ge hN5557 hb5554
   have k5558 := (hN5160.blk.grown hi5551 (some_ne (by omega)))
   have lt_B5158_B5555 := hN_gtl hN5557 (k5558).lt
   have hb5559 := low0 hb5554 hN5557.grw
   exact wpo_nil ⟨B5288, k5294, x5302, B5305, k5311, x5319, B5555, (low0 hi5551 hN5557.grw), e5552, e5553, fun h => (c_old_R h).grown0 hN5557.grw, fun h => let ⟨y5560, y5561, y5562, y5563, y5564, y5565⟩ := c_0 h; ⟨y5560, y5561, (y5562).grown0 hN5557.grw, y5563, y5564, y5565⟩, c_1, fun h => let ⟨y5566, y5567, y5568, y5569⟩ := c_2 h; ⟨y5566, y5567, y5568, fun hn => (y5569 hn).grown0 hN5557.grw⟩, c_3, c_4, fun h => let ⟨y5570, y5571, y5572, y5573, y5574, y5575⟩ := c_5 h; ⟨y5570, y5571, (y5572).grown0 hN5557.grw, y5573, y5574, y5575⟩, c_6, fun h => let ⟨y5576, y5577, y5578, y5579⟩ := c_7 h; ⟨y5576, y5577, y5578, (y5579).grown0 hN5557.grw⟩, c_8, c_9, c_10, fun _ => ⟨rfl, hlB5555, hN5557.blk, (by omega), lt_B5158_B5555, (Nat.le_trans hi5551.size (Nat.le_of_eq hN5557.eq.symm))⟩, pr_B5288_B5305, fun h _ => let ⟨y5580, y5581, y5582, y5583, y5584, y5585⟩ := c_0 h; Nat.ne_of_lt (Nat.lt_of_lt_of_le (Blk.lt y5582) (Nat.le_of_eq hN5557.eq.symm)), fun h _ => let ⟨y5586, y5587, y5588, y5589, y5590, y5591⟩ := c_5 h; Nat.ne_of_lt (Nat.lt_of_lt_of_le (Blk.lt y5588) (Nat.le_of_eq hN5557.eq.symm))⟩
  exact preL_nil
 ·
  intro S F w5592 hall hI
  obtain ⟨B5288, k5294, x5302, B5305, k5311, x5319, B5322, hi5593, e5594, e5595, c_old_R, c_0, c_1, c_2, c_3, c_4, c_5, c_6, c_7, c_8, c_9, c_10, c_11, pr_B5288_B5305, pr_B5288_B5322, pr_B5305_B5322⟩ := hI
  have hb5596 := grown_trans hb5161 hi5593
  obtain ⟨e5597, hlB5288, kb_B5288, lt_R_B5288, lt_B5158_B5288, hk_B5288⟩ := c_0 (hall 0 (by decide))
  obtain e5598 := c_1 (hall 1 (by decide))
  obtain ⟨e5599, hk5295, hk5296, ks2_R⟩ := c_2 (hall 2 (by decide))
  obtain e5600 := c_3 (hall 3 (by decide))
  obtain ⟨e5601, hx5303, hm5304⟩ := c_4 (hall 4 (by decide))
  obtain ⟨e5602, hlB5305, kb_B5305, lt_R_B5305, lt_B5158_B5305, hk_B5305⟩ := c_5 (hall 5 (by decide))
  obtain e5603 := c_6 (hall 6 (by decide))
  obtain ⟨e5604, hk5312, hk5313, ks7_R⟩ := c_7 (hall 7 (by decide))
  obtain e5605 := c_8 (hall 8 (by decide))
  obtain ⟨e5606, hx5320, hm5321⟩ := c_9 (hall 9 (by decide))
  obtain e5607 := c_10 (hall 10 (by decide))
  obtain ⟨e5608, hlB5322, kb_B5322, lt_R_B5322, lt_B5158_B5322, hk_B5322⟩ := c_11 (hall 11 (by decide))
  have ne_B5288_B5305 := pr_B5288_B5305 (hall 0 (by decide)) (hall 5 (by decide))
  have ne_B5288_B5322 := pr_B5288_B5322 (hall 0 (by decide)) (hall 11 (by decide))
  have ne_B5305_B5322 := pr_B5305_B5322 (hall 5 (by decide)) (hall 11 (by decide))
  refine wpo_storen (vs := [.int .i64 x5302, .int .i64 x5319]) (cs' := #[.int .i64 x5302, .int .i64 x5319]) rt_40 e5608 e5607 rfl (by simp [Value.oneCell']) kb_B5322 (Nat.le_of_ble_eq_true rfl) rfl ?_
  intro w5609 hS5610
  have hb5611 := low1 hb5596 hS5610.grw (by omega)
  refine wpo_nil ?_
  refine thn_n ?_
  refine wpf_seq ?_
  refine wpf_seq_region ?_
  refine wpo_move (v := .pointer (some ⟨R, 0, none⟩)) e5594 rfl ?_
  have k5612 := (ks7_R.grown hS5610.grw (some_ne (by omega)))
  refine wpo_call (vs := [.pointer (some ⟨R, 0, none⟩), .int .i64 60]) gf_60 (args_cons rfl (args_cons rfl args_nil)) rfl (pick_c (p + 1 + 1) 60 (by omega) _ R bs _ _ _ k5612 (by omega) (SlLt.low1 hs hb5611 hlo) (by first | exact hb | exact fun b h => hb b (List.mem_of_mem_take h)) (by first | omega | (rw [List.length_take]; omega))) ?_
  rintro _ w5618 ⟨k5613, rfl, hk5614, hk5615, kR5616, hg5617⟩
  have hb5619 := grown_trans hb5611 hg5617
  refine wpo_eql (q := decide (k5613 = 0)) rfl rfl rfl rfl ?_
  refine wpo_nil ?_
  refine wpf_cond rfl (fun h5620 => ?_) (fun h5620 => ?_)
  ·
   have h5621 := of_decide_eq_true h5620
   refine wpf_region ?_
   refine wpo_buildSlice (ps := [(0, .int .i64 (-1)), (1, .int .i64 4)]) (e := 3) (cs := (([(-1), 4] : List Int).flatMap icell).toArray) (parts_cons rfl (parts_cons rfl parts_nil)) (fun _ => by kernel_rfl) rfl ?_
   intro B5622 w5623 hN5624
   have hlB5622 := hN_ge hN5624 hb5619
   have k5625 := (((hN5160.blk.grown hi5593 (some_ne (by omega))).grown hS5610.grw (some_ne (by omega))).grown hg5617 (some_ne (by omega)))
   have lt_B5158_B5622 := hN_gtl hN5624 (k5625).lt
   have k5626 := ((kb_B5288.grown hS5610.grw (some_ne (by omega))).grown hg5617 (some_ne (by omega)))
   have lt_B5288_B5622 := hN_gtl hN5624 (k5626).lt
   have k5627 := ((kb_B5305.grown hS5610.grw (some_ne (by omega))).grown hg5617 (some_ne (by omega)))
   have lt_B5305_B5622 := hN_gtl hN5624 (k5627).lt
   have lt_R_B5622 := hN_gtl hN5624 (kR5616).lt
   have k5628 := (hS5610.blk.grown hg5617 (some_ne (by omega)))
   have lt_B5322_B5622 := hN_gtl hN5624 (k5628).lt
   have hb5629 := low0 hb5619 hN5624.grw
   refine wpo_move (v := .pointer (some ⟨R, 0, none⟩)) e5594 rfl ?_
   have k5630 := (kR5616.grown0 hN5624.grw)
   refine wpo_call (vs := [.pointer (some ⟨R, 0, none⟩), .int .i64 2]) gf_60 (args_cons rfl (args_cons rfl args_nil)) rfl (pick_c (p + 1 + 1 + 1) 2 (by omega) _ R bs _ _ _ k5630 (by omega) (SlLt.low1 hs hb5629 hlo) (by first | exact hb | exact fun b h => hb b (List.mem_of_mem_take h)) (by first | omega | (rw [List.length_take]; omega))) ?_
   rintro _ w5636 ⟨k5631, rfl, hk5632, hk5633, kR5634, hg5635⟩
   have hb5637 := grown_trans hb5629 hg5635
   refine wpo_indexAddr (o' := (k5631).toNat * 1) es_43 rfl rfl (by omega) (by omega) (by omega) rfl ?_
   have k5638 := (hN5624.blk.grown hg5635 (some_ne (by omega)))
   obtain ⟨x5639, hx5640⟩ := get_lt (l := ([(-1), 4] : List Int)) (i := (k5631).toNat) (show (k5631).toNat < 2 by omega)
   have hm5641 := List.mem_of_getElem? hx5640
   simp only [List.mem_cons, List.not_mem_nil, or_false] at hm5641
   refine wpo_load1 (v := .int .i64 x5639) ot_3 rfl ((rows_range wide_int k5638 hx5640) 0 _ rfl) rfl ?_
   refine wpo_fieldAddr (o' := 0) fo_40_0 e5608 rfl rfl ?_
   have k5642 := ((k5628.grown0 hN5624.grw).grown hg5635 (some_ne (by omega)))
   refine wpo_store1 (v := .int .i64 x5639) (cs' := #[.int .i64 x5639, .int .i64 x5319]) ot_3 rfl rfl rfl k5642 (Nat.le_of_ble_eq_true rfl) rfl ?_
   intro w5643 hS5644
   have hb5645 := low1 hb5637 hS5644.grw (by omega)
   refine wpo_nil ?_
   refine thn_n ?_
   refine wpf_seq_region ?_
   refine wpo_loadn (vs := [.int .i64 x5639, .int .i64 x5319]) rt_40 e5608 rfl (hS5644.blk.rangeL 0 2 rfl) rfl ?_
   have k5646 := (((k5625.grown0 hN5624.grw).grown hg5635 (some_ne (by omega))).grown hS5644.grw (some_ne (by omega)))
   refine wpo_storen (vs := [.int .i64 x5639, .int .i64 x5319]) (cs' := #[.int .i64 x5639, .int .i64 x5319]) rt_40 e5595 rfl rfl (by simp [Value.oneCell']) k5646 (Nat.le_of_ble_eq_true rfl) rfl ?_
   intro w5647 hS5648
   have hb5649 := low1 hb5645 hS5648.grw (by omega)
   refine wpo_nil ?_
   refine wpf_ret ?_
   have k5650 := ((kR5634.grown hS5644.grw (some_ne (by omega))).grown hS5648.grw (some_ne (by omega)))
   refine ⟨.agg #[.int .i64 x5639, .int .i64 x5319], resC rfl (resCell_mk (vs := [.int .i64 x5639, .int .i64 x5319]) rt_40 e5595 rfl (hS5648.blk.rangeL 0 2 rfl)), ⟨x5639, x5319⟩, (p + 1 + 1 + 1 + 1), rfl, show (-1 : Int) ≤ x5639 by omega, show x5639 ≤ (4 : Int) by omega, show (0 : Int) ≤ x5319 by omega, show x5319 ≤ (3 : Int) by omega, by omega, by omega, k5650, hb5649⟩
  ·
   have h5651 := of_decide_eq_false h5620
   refine wpf_skip ?_
   refine thn_n ?_
   refine wpf_seq_region ?_
   have k5652 := (hS5610.blk.grown hg5617 (some_ne (by omega)))
   refine wpo_loadn (vs := [.int .i64 x5302, .int .i64 x5319]) rt_40 e5608 rfl (k5652.rangeL 0 2 rfl) rfl ?_
   have k5653 := (((hN5160.blk.grown hi5593 (some_ne (by omega))).grown hS5610.grw (some_ne (by omega))).grown hg5617 (some_ne (by omega)))
   refine wpo_storen (vs := [.int .i64 x5302, .int .i64 x5319]) (cs' := #[.int .i64 x5302, .int .i64 x5319]) rt_40 e5595 rfl rfl (by simp [Value.oneCell']) k5653 (Nat.le_of_ble_eq_true rfl) rfl ?_
   intro w5654 hS5655
   have hb5656 := low1 hb5619 hS5655.grw (by omega)
   refine wpo_nil ?_
   refine wpf_ret ?_
   have k5657 := (kR5616.grown hS5655.grw (some_ne (by omega)))
   refine ⟨.agg #[.int .i64 x5302, .int .i64 x5319], resC rfl (resCell_mk (vs := [.int .i64 x5302, .int .i64 x5319]) rt_40 e5595 rfl (hS5655.blk.rangeL 0 2 rfl)), ⟨x5302, x5319⟩, (p + 1 + 1 + 1), rfl, show (-1 : Int) ≤ x5302 by omega, show x5302 ≤ (4 : Int) by omega, show (0 : Int) ≤ x5319 by omega, show x5319 ≤ (3 : Int) by omega, by omega, by omega, k5657, hb5656⟩

theorem DrawThingNew_c (bs : List Int) (a : Option Addr) (c : Nat) (w : World) (hs0 : SlAt w a 1 (bs.map bcell)) (hb : ∀ b ∈ bs, 0 ≤ b ∧ b ≤ 255) (hn : bs.length ≤ 1048576) (hc : bs.length ≤ c) : CallsR Try.prog 22 #[.slice a bs.length c] w (fun v w' => ∃ (k : Int) (l : Lab) (to : Int), v = .tuple #[.int .i64 k, .agg #[.int .i64 l.s, .int .i64 l.v], .int .i64 to] ∧ (0 ≤ k ∧ k ≤ 10) ∧ (0 ≤ to ∧ to ≤ 10) ∧ w.grownBy w' none) := by
 refine calls_of_wpf (n := 31) Try.func22 rfl Try.ntmps22 rfl ?_
 have hb0 := World.grownBy.refl w none
 have hs := SlAt.lt wide_b (by omega) hs0
 refine wpf_seq_region ?_
 refine wpo_assign (v := .int .i64 0) rfl rfl ?_
 refine wpo_alloc (cs := #[.int .i64 0, .int .i64 0]) zt_40 rfl rfl ?_
 intro B5658 w5659 hN5660
 have hlB5658 := hN_ge hN5660 hb0
 have hb5661 := low0 hb0 hN5660.grw
 refine wpo_assign (v := .int .i64 0) rfl rfl ?_
 refine wpo_nil ?_
 refine wpf_seq_region ?_
 refine wpo_move (v := .slice a bs.length c) rfl rfl ?_
 refine wpo_call (vs := [.slice a bs.length c]) gf_59 (args_cons rfl args_nil) rfl (l6Open_c bs a c _ (by omega) (by omega)) ?_
 rintro _ w5666 ⟨R5662, rfl, hge5663, kR5664, hg5665⟩
 have hb5667 := low0 hb5661 hg5665
 have hlR5662 := Nat.le_trans hb5661.size hge5663
 have lt_B5658_R5662 := Nat.lt_of_lt_of_le (hN5660.blk).lt hge5663
 refine wpo_assign (v := .pointer (some ⟨R5662, 0, none⟩)) rfl rfl ?_
 refine wpo_nil ?_
 refine wpf_seq_region ?_
 refine wpo_move (v := .pointer (some ⟨R5662, 0, none⟩)) rfl rfl ?_
 refine wpo_call (vs := [.pointer (some ⟨R5662, 0, none⟩), .int .i64 5]) gf_60 (args_cons rfl (args_cons rfl args_nil)) rfl (pick_c 0 5 (by omega) _ R5662 (bs.take 2000) _ _ _ kR5664 (by omega) (SlLt.low0 (SlLt.take hs 2000) hb5667) (by first | exact hb | exact fun b h => hb b (List.mem_of_mem_take h)) (by first | omega | (rw [List.length_take]; omega))) ?_
 rintro _ w5673 ⟨k5668, rfl, hk5669, hk5670, kR5671, hg5672⟩
 have hb5674 := low1 hb5667 hg5672 (by omega)
 have kR5671e : Blk w5673 R5662 121 #[.slice a ((bs.take 2000).length) c, .int .i64 1] := kR5671
 refine wpo_add (c := 1 + k5668) rfl rfl (by omega) (by omega) (by omega) rfl ?_
 refine wpo_assign (v := .int .i64 (1 + k5668)) rfl rfl ?_
 refine wpo_nil ?_
 refine wpf_seq_region ?_
 refine wpo_assign (v := .int .i64 0) rfl rfl ?_
 refine wpo_nil ?_
 refine wpf_seq ?_
 refine wpf_seq_region ?_
 refine wpo_move (v := .int .i64 (1 + k5668)) rfl rfl ?_
 refine wpo_eql (q := decide (1 + k5668 = 5)) rfl rfl rfl rfl ?_
 refine wpo_nil ?_
 refine wpf_cond rfl (fun h5675 => ?_) (fun h5675 => ?_)
 ·
  have h5676 := of_decide_eq_true h5675
  refine wpf_region ?_
  refine wpo_move (v := .pointer (some ⟨R5662, 0, none⟩)) rfl rfl ?_
  refine wpo_call (vs := [.pointer (some ⟨R5662, 0, none⟩), .int .i64 8]) gf_60 (args_cons rfl (args_cons rfl args_nil)) rfl (pick_c 1 8 (by omega) _ R5662 (bs.take 2000) _ _ _ kR5671e (by omega) (SlLt.low0 (SlLt.take hs 2000) hb5674) (by first | exact hb | exact fun b h => hb b (List.mem_of_mem_take h)) (by first | omega | (rw [List.length_take]; omega))) ?_
  rintro _ w5682 ⟨k5677, rfl, hk5678, hk5679, kR5680, hg5681⟩
  have hb5683 := low1 hb5674 hg5681 (by omega)
  have kR5680e : Blk w5682 R5662 121 #[.slice a ((bs.take 2000).length) c, .int .i64 2] := kR5680
  refine wpo_add (c := 1 + k5677) rfl rfl (by omega) (by omega) (by omega) rfl ?_
  refine wpo_assign (v := .int .i64 (1 + k5677)) rfl rfl ?_
  refine wpo_nil ?_
  refine thn_n ?_
  refine wpf_seq ?_
  refine wpf_seq_region ?_
  refine wpo_move (v := .pointer (some ⟨R5662, 0, none⟩)) rfl rfl ?_
  refine wpo_call (vs := [.pointer (some ⟨R5662, 0, none⟩), .int .i64 12]) gf_60 (args_cons rfl (args_cons rfl args_nil)) rfl (pick_c 2 12 (by omega) _ R5662 (bs.take 2000) _ _ _ kR5680e (by omega) (SlLt.low0 (SlLt.take hs 2000) hb5683) (by first | exact hb | exact fun b h => hb b (List.mem_of_mem_take h)) (by first | omega | (rw [List.length_take]; omega))) ?_
  rintro _ w5689 ⟨k5684, rfl, hk5685, hk5686, kR5687, hg5688⟩
  have hb5690 := low1 hb5683 hg5688 (by omega)
  have kR5687e : Blk w5689 R5662 121 #[.slice a ((bs.take 2000).length) c, .int .i64 3] := kR5687
  refine wpo_eql (q := decide (k5684 = 0)) rfl rfl rfl rfl ?_
  refine wpo_nil ?_
  refine wpf_cond rfl (fun h5691 => ?_) (fun h5691 => ?_)
  ·
   have h5692 := of_decide_eq_true h5691
   refine wpf_seq_region ?_
   refine wpo_move (v := .pointer (some ⟨R5662, 0, none⟩)) rfl rfl ?_
   refine wpo_call (vs := [.pointer (some ⟨R5662, 0, none⟩), .int .i64 8]) gf_60 (args_cons rfl (args_cons rfl args_nil)) rfl (pick_c 3 8 (by omega) _ R5662 (bs.take 2000) _ _ _ kR5687e (by omega) (SlLt.low0 (SlLt.take hs 2000) hb5690) (by first | exact hb | exact fun b h => hb b (List.mem_of_mem_take h)) (by first | omega | (rw [List.length_take]; omega))) ?_
   rintro _ w5698 ⟨k5693, rfl, hk5694, hk5695, kR5696, hg5697⟩
   have hb5699 := low1 hb5690 hg5697 (by omega)
   have kR5696e : Blk w5698 R5662 121 #[.slice a ((bs.take 2000).length) c, .int .i64 4] := kR5696
   refine wpo_move (v := .pointer (some ⟨R5662, 0, none⟩)) rfl rfl ?_
   refine wpo_call (vs := [.pointer (some ⟨R5662, 0, none⟩)]) gf_65 (args_cons rfl args_nil) rfl (l71Label_c 4 (by omega) _ R5662 (bs.take 2000) _ _ _ kR5696e (by omega) (SlLt.low0 (SlLt.take hs 2000) hb5699) (by first | exact hb | exact fun b h => hb b (List.mem_of_mem_take h)) (by first | omega | (rw [List.length_take]; omega))) ?_
   rintro _ w5710 ⟨l5700, p5701, rfl, hr5702, hr5703, hr5704, hr5705, hp5706, hp5707, kR5708, hg5709⟩
   have hb5711 := low1 hb5699 hg5709 (by omega)
   refine wpo_move (v := .pointer (some ⟨R5662, 0, none⟩)) rfl rfl ?_
   refine wpo_call (vs := [.pointer (some ⟨R5662, 0, none⟩), .int .i64 10]) gf_60 (args_cons rfl (args_cons rfl args_nil)) rfl (pick_c p5701 10 (by omega) _ R5662 (bs.take 2000) _ _ _ kR5708 (by omega) (SlLt.low0 (SlLt.take hs 2000) hb5711) (by first | exact hb | exact fun b h => hb b (List.mem_of_mem_take h)) (by first | omega | (rw [List.length_take]; omega))) ?_
   rintro _ w5717 ⟨k5712, rfl, hk5713, hk5714, kR5715, hg5716⟩
   have hb5718 := low1 hb5711 hg5716 (by omega)
   refine wpo_assign (v := .int .i64 k5693) rfl rfl ?_
   have k5719 := (((((((hN5660.blk.grown0 hg5665).grown hg5672 (some_ne (by omega))).grown hg5681 (some_ne (by omega))).grown hg5688 (some_ne (by omega))).grown hg5697 (some_ne (by omega))).grown hg5709 (some_ne (by omega))).grown hg5716 (some_ne (by omega)))
   refine wpo_storen (vs := [.int .i64 l5700.s, .int .i64 l5700.v]) (cs' := #[.int .i64 l5700.s, .int .i64 l5700.v]) rt_40 rfl rfl rfl (by simp [Value.oneCell']) k5719 (Nat.le_of_ble_eq_true rfl) rfl ?_
   intro w5720 hS5721
   have hb5722 := low1 hb5718 hS5721.grw (by omega)
   refine wpo_assign (v := .int .i64 k5712) rfl rfl ?_
   refine wpo_nil ?_
   refine wpf_ret ?_
   refine thn_r ?_
   refine ⟨.tuple #[.int .i64 k5693, .agg #[.int .i64 l5700.s, .int .i64 l5700.v], .int .i64 k5712], resTCT rfl rfl (resCell_mk (vs := [.int .i64 l5700.s, .int .i64 l5700.v]) rt_40 rfl rfl (hS5721.blk.rangeL 0 2 rfl)) rfl, k5693, l5700, k5712, rfl, by omega, by omega, hb5722⟩
  ·
   have h5723 := of_decide_eq_false h5691
   refine wpf_skip ?_
   refine thn_n ?_
   refine wpf_seq_region ?_
   refine wpo_move (v := .int .i64 (1 + k5668)) rfl rfl ?_
   refine wpo_move (v := .pointer (some ⟨R5662, 0, none⟩)) rfl rfl ?_
   refine wpo_call (vs := [.pointer (some ⟨R5662, 0, none⟩)]) gf_65 (args_cons rfl args_nil) rfl (l71Label_c 3 (by omega) _ R5662 (bs.take 2000) _ _ _ kR5687e (by omega) (SlLt.low0 (SlLt.take hs 2000) hb5690) (by first | exact hb | exact fun b h => hb b (List.mem_of_mem_take h)) (by first | omega | (rw [List.length_take]; omega))) ?_
   rintro _ w5734 ⟨l5724, p5725, rfl, hr5726, hr5727, hr5728, hr5729, hp5730, hp5731, kR5732, hg5733⟩
   have hb5735 := low1 hb5690 hg5733 (by omega)
   refine wpo_move (v := .int .i64 (1 + k5677)) rfl rfl ?_
   refine wpo_assign (v := .int .i64 (1 + k5668)) rfl rfl ?_
   have k5736 := (((((hN5660.blk.grown0 hg5665).grown hg5672 (some_ne (by omega))).grown hg5681 (some_ne (by omega))).grown hg5688 (some_ne (by omega))).grown hg5733 (some_ne (by omega)))
   refine wpo_storen (vs := [.int .i64 l5724.s, .int .i64 l5724.v]) (cs' := #[.int .i64 l5724.s, .int .i64 l5724.v]) rt_40 rfl rfl rfl (by simp [Value.oneCell']) k5736 (Nat.le_of_ble_eq_true rfl) rfl ?_
   intro w5737 hS5738
   have hb5739 := low1 hb5735 hS5738.grw (by omega)
   refine wpo_assign (v := .int .i64 (1 + k5677)) rfl rfl ?_
   refine wpo_nil ?_
   refine wpf_ret ?_
   refine ⟨.tuple #[.int .i64 (1 + k5668), .agg #[.int .i64 l5724.s, .int .i64 l5724.v], .int .i64 (1 + k5677)], resTCT rfl rfl (resCell_mk (vs := [.int .i64 l5724.s, .int .i64 l5724.v]) rt_40 rfl rfl (hS5738.blk.rangeL 0 2 rfl)) rfl, (1 + k5668), l5724, (1 + k5677), rfl, by omega, by omega, hb5739⟩
 ·
  have h5740 := of_decide_eq_false h5675
  refine wpf_skip ?_
  refine thn_n ?_
  refine wpf_seq ?_
  refine wpf_seq_region ?_
  refine wpo_move (v := .pointer (some ⟨R5662, 0, none⟩)) rfl rfl ?_
  refine wpo_call (vs := [.pointer (some ⟨R5662, 0, none⟩), .int .i64 12]) gf_60 (args_cons rfl (args_cons rfl args_nil)) rfl (pick_c 1 12 (by omega) _ R5662 (bs.take 2000) _ _ _ kR5671e (by omega) (SlLt.low0 (SlLt.take hs 2000) hb5674) (by first | exact hb | exact fun b h => hb b (List.mem_of_mem_take h)) (by first | omega | (rw [List.length_take]; omega))) ?_
  rintro _ w5746 ⟨k5741, rfl, hk5742, hk5743, kR5744, hg5745⟩
  have hb5747 := low1 hb5674 hg5745 (by omega)
  have kR5744e : Blk w5746 R5662 121 #[.slice a ((bs.take 2000).length) c, .int .i64 2] := kR5744
  refine wpo_eql (q := decide (k5741 = 0)) rfl rfl rfl rfl ?_
  refine wpo_nil ?_
  refine wpf_cond rfl (fun h5748 => ?_) (fun h5748 => ?_)
  ·
   have h5749 := of_decide_eq_true h5748
   refine wpf_seq_region ?_
   refine wpo_move (v := .pointer (some ⟨R5662, 0, none⟩)) rfl rfl ?_
   refine wpo_call (vs := [.pointer (some ⟨R5662, 0, none⟩), .int .i64 8]) gf_60 (args_cons rfl (args_cons rfl args_nil)) rfl (pick_c 2 8 (by omega) _ R5662 (bs.take 2000) _ _ _ kR5744e (by omega) (SlLt.low0 (SlLt.take hs 2000) hb5747) (by first | exact hb | exact fun b h => hb b (List.mem_of_mem_take h)) (by first | omega | (rw [List.length_take]; omega))) ?_
   rintro _ w5755 ⟨k5750, rfl, hk5751, hk5752, kR5753, hg5754⟩
   have hb5756 := low1 hb5747 hg5754 (by omega)
   have kR5753e : Blk w5755 R5662 121 #[.slice a ((bs.take 2000).length) c, .int .i64 3] := kR5753
   refine wpo_move (v := .pointer (some ⟨R5662, 0, none⟩)) rfl rfl ?_
   refine wpo_call (vs := [.pointer (some ⟨R5662, 0, none⟩)]) gf_65 (args_cons rfl args_nil) rfl (l71Label_c 3 (by omega) _ R5662 (bs.take 2000) _ _ _ kR5753e (by omega) (SlLt.low0 (SlLt.take hs 2000) hb5756) (by first | exact hb | exact fun b h => hb b (List.mem_of_mem_take h)) (by first | omega | (rw [List.length_take]; omega))) ?_
   rintro _ w5767 ⟨l5757, p5758, rfl, hr5759, hr5760, hr5761, hr5762, hp5763, hp5764, kR5765, hg5766⟩
   have hb5768 := low1 hb5756 hg5766 (by omega)
   refine wpo_move (v := .pointer (some ⟨R5662, 0, none⟩)) rfl rfl ?_
   refine wpo_call (vs := [.pointer (some ⟨R5662, 0, none⟩), .int .i64 10]) gf_60 (args_cons rfl (args_cons rfl args_nil)) rfl (pick_c p5758 10 (by omega) _ R5662 (bs.take 2000) _ _ _ kR5765 (by omega) (SlLt.low0 (SlLt.take hs 2000) hb5768) (by first | exact hb | exact fun b h => hb b (List.mem_of_mem_take h)) (by first | omega | (rw [List.length_take]; omega))) ?_
   rintro _ w5774 ⟨k5769, rfl, hk5770, hk5771, kR5772, hg5773⟩
   have hb5775 := low1 hb5768 hg5773 (by omega)
   refine wpo_assign (v := .int .i64 k5750) rfl rfl ?_
   have k5776 := ((((((hN5660.blk.grown0 hg5665).grown hg5672 (some_ne (by omega))).grown hg5745 (some_ne (by omega))).grown hg5754 (some_ne (by omega))).grown hg5766 (some_ne (by omega))).grown hg5773 (some_ne (by omega)))
   refine wpo_storen (vs := [.int .i64 l5757.s, .int .i64 l5757.v]) (cs' := #[.int .i64 l5757.s, .int .i64 l5757.v]) rt_40 rfl rfl rfl (by simp [Value.oneCell']) k5776 (Nat.le_of_ble_eq_true rfl) rfl ?_
   intro w5777 hS5778
   have hb5779 := low1 hb5775 hS5778.grw (by omega)
   refine wpo_assign (v := .int .i64 k5769) rfl rfl ?_
   refine wpo_nil ?_
   refine wpf_ret ?_
   refine thn_r ?_
   refine ⟨.tuple #[.int .i64 k5750, .agg #[.int .i64 l5757.s, .int .i64 l5757.v], .int .i64 k5769], resTCT rfl rfl (resCell_mk (vs := [.int .i64 l5757.s, .int .i64 l5757.v]) rt_40 rfl rfl (hS5778.blk.rangeL 0 2 rfl)) rfl, k5750, l5757, k5769, rfl, by omega, by omega, hb5779⟩
  ·
   have h5780 := of_decide_eq_false h5748
   refine wpf_skip ?_
   refine thn_n ?_
   refine wpf_seq_region ?_
   refine wpo_move (v := .int .i64 (1 + k5668)) rfl rfl ?_
   refine wpo_move (v := .pointer (some ⟨R5662, 0, none⟩)) rfl rfl ?_
   refine wpo_call (vs := [.pointer (some ⟨R5662, 0, none⟩)]) gf_65 (args_cons rfl args_nil) rfl (l71Label_c 2 (by omega) _ R5662 (bs.take 2000) _ _ _ kR5744e (by omega) (SlLt.low0 (SlLt.take hs 2000) hb5747) (by first | exact hb | exact fun b h => hb b (List.mem_of_mem_take h)) (by first | omega | (rw [List.length_take]; omega))) ?_
   rintro _ w5791 ⟨l5781, p5782, rfl, hr5783, hr5784, hr5785, hr5786, hp5787, hp5788, kR5789, hg5790⟩
   have hb5792 := low1 hb5747 hg5790 (by omega)
   refine wpo_move (v := .int .i64 0) rfl rfl ?_
   refine wpo_assign (v := .int .i64 (1 + k5668)) rfl rfl ?_
   have k5793 := ((((hN5660.blk.grown0 hg5665).grown hg5672 (some_ne (by omega))).grown hg5745 (some_ne (by omega))).grown hg5790 (some_ne (by omega)))
   refine wpo_storen (vs := [.int .i64 l5781.s, .int .i64 l5781.v]) (cs' := #[.int .i64 l5781.s, .int .i64 l5781.v]) rt_40 rfl rfl rfl (by simp [Value.oneCell']) k5793 (Nat.le_of_ble_eq_true rfl) rfl ?_
   intro w5794 hS5795
   have hb5796 := low1 hb5792 hS5795.grw (by omega)
   refine wpo_assign (v := .int .i64 0) rfl rfl ?_
   refine wpo_nil ?_
   refine wpf_ret ?_
   refine ⟨.tuple #[.int .i64 (1 + k5668), .agg #[.int .i64 l5781.s, .int .i64 l5781.v], .int .i64 0], resTCT rfl rfl (resCell_mk (vs := [.int .i64 l5781.s, .int .i64 l5781.v]) rt_40 rfl rfl (hS5795.blk.rangeL 0 2 rfl)) rfl, (1 + k5668), l5781, 0, rfl, by omega, by omega, hb5796⟩

theorem ldThing_c (m p : MTh) (w : World) (ha : ThAt w m) (hb : ThAt w p) (hla : m.t.slots.length ≤ 1048576 ∧ m.t.queue.length ≤ 1048576) (hlb : p.t.slots.length ≤ 1048576 ∧ p.t.queue.length ≤ 1048576) : CallsR Try.prog 25 #[.agg #[.int .i64 m.t.kind, .int .i64 m.t.lab.s, .int .i64 m.t.lab.v, .int .i64 m.t.ve, .int .i64 m.t.num, .slice m.sa m.t.slots.length m.sc, .slice m.qa m.t.queue.length m.qc, .int .i64 m.t.to], .agg #[.int .i64 p.t.kind, .int .i64 p.t.lab.s, .int .i64 p.t.lab.v, .int .i64 p.t.ve, .int .i64 p.t.num, .slice p.sa p.t.slots.length p.sc, .slice p.qa p.t.queue.length p.qc, .int .i64 p.t.to]] w (fun v w' => v = .bool (decide (m.t = p.t)) ∧ w.grownBy w' none) := by
 refine calls_of_wpf (n := 94) Try.func25 rfl Try.ntmps25 rfl ?_
 have hb0 := World.grownBy.refl w none
 refine wpf_seq_region ?_
 refine wpo_box (v := .agg #[.int .i64 m.t.kind, .int .i64 m.t.lab.s, .int .i64 m.t.lab.v, .int .i64 m.t.ve, .int .i64 m.t.num, .slice m.sa m.t.slots.length m.sc, .slice m.qa m.t.queue.length m.qc, .int .i64 m.t.to]) (cs := #[.int .i64 m.t.kind, .int .i64 m.t.lab.s, .int .i64 m.t.lab.v, .int .i64 m.t.ve, .int .i64 m.t.num, .slice m.sa m.t.slots.length m.sc, .slice m.qa m.t.queue.length m.qc, .int .i64 m.t.to]) rfl rfl rfl ?_
 intro B5797 w5798 hN5799
 have hlB5797 := hN_ge hN5799 hb0
 have hb5800 := low0 hb0 hN5799.grw
 refine wpo_box (v := .agg #[.int .i64 p.t.kind, .int .i64 p.t.lab.s, .int .i64 p.t.lab.v, .int .i64 p.t.ve, .int .i64 p.t.num, .slice p.sa p.t.slots.length p.sc, .slice p.qa p.t.queue.length p.qc, .int .i64 p.t.to]) (cs := #[.int .i64 p.t.kind, .int .i64 p.t.lab.s, .int .i64 p.t.lab.v, .int .i64 p.t.ve, .int .i64 p.t.num, .slice p.sa p.t.slots.length p.sc, .slice p.qa p.t.queue.length p.qc, .int .i64 p.t.to]) rfl rfl rfl ?_
 intro B5801 w5802 hN5803
 have hlB5801 := hN_ge hN5803 hb5800
 have lt_B5797_B5801 := hN_gtl hN5803 (hN5799.blk).lt
 have hb5804 := low0 hb5800 hN5803.grw
 refine wpo_assign (v := .bool false) rfl rfl ?_
 refine wpo_nil ?_
 refine wpf_seq ?_
 refine wpf_seq_region_mid (fun f' w' => (f' 2 = .pointer (some ⟨B5797, 0, none⟩) ∧ f' 3 = .pointer (some ⟨B5801, 0, none⟩) ∧ f' 4 = .bool false ∧ f' 57 = .bool (((((((!(decide (m.t.kind = p.t.kind))) || (!(decide (m.t.lab = p.t.lab)))) || (!(decide (m.t.ve = p.t.ve)))) || (!(decide (m.t.num = p.t.num)))) || (!(decide (m.t.to = p.t.to)))) || (!(decide ((m.t.slots.length : Int) = (p.t.slots.length : Int))))) || (!(decide ((m.t.queue.length : Int) = (p.t.queue.length : Int)))))) ∧ w5802 = w') ?_ ?_
 ·
  refine wpo_fieldAddr (o' := 0) fo_45_0 rfl rfl rfl ?_
  have k5807 := (hN5799.blk.grown0 hN5803.grw)
  refine wpo_load1 (v := .int .i64 m.t.kind) ot_3 rfl (k5807.cell rfl) rfl ?_
  refine wpo_fieldAddr (o' := 0) fo_45_0 rfl rfl rfl ?_
  refine wpo_load1 (v := .int .i64 p.t.kind) ot_3 rfl (hN5803.blk.cell rfl) rfl ?_
  refine wpo_neq (q := !(decide (m.t.kind = p.t.kind))) rfl rfl rfl rfl ?_
  refine wpo_move (v := .bool (!(decide (m.t.kind = p.t.kind)))) rfl rfl ?_
  rcases bcases (!(decide (m.t.kind = p.t.kind))) with h5808 | h5808
  ·
   have h5809 := nt_t h5808
   have h5810 := of_decide_eq_false h5809
   iterate 5 refine wpo_pass rfl rfl rfl h5808 rfl ?_
   refine wpo_pickt (v := .bool true) rfl h5808 rfl rfl ?_
   refine wpo_move (v := .bool true) rfl rfl ?_
   iterate 5 refine wpo_pass rfl rfl rfl rfl rfl ?_
   refine wpo_pickt (v := .bool true) rfl rfl rfl rfl ?_
   refine wpo_move (v := .bool true) rfl rfl ?_
   iterate 5 refine wpo_pass rfl rfl rfl rfl rfl ?_
   refine wpo_pickt (v := .bool true) rfl rfl rfl rfl ?_
   refine wpo_move (v := .bool true) rfl rfl ?_
   iterate 5 refine wpo_pass rfl rfl rfl rfl rfl ?_
   refine wpo_pickt (v := .bool true) rfl rfl rfl rfl ?_
   refine wpo_move (v := .bool true) rfl rfl ?_
   iterate 7 refine wpo_pass rfl rfl rfl rfl rfl ?_
   refine wpo_pickt (v := .bool true) rfl rfl rfl rfl ?_
   refine wpo_move (v := .bool true) rfl rfl ?_
   iterate 7 refine wpo_pass rfl rfl rfl rfl rfl ?_
   refine wpo_pickt (v := .bool true) rfl rfl rfl rfl ?_
   exact wpo_nil ⟨⟨rfl, rfl, rfl, (congrArg Value.bool (by first | (simp only [h5808, h5809, b0, b1, b2, b3, b4, b5, b6, b7, b8, b9]; done) | simp [h5808, h5809]))⟩, rfl⟩
  ·
   have h5811 := nt_f h5808
   have h5812 := of_decide_eq_true h5811
   refine wpo_run rfl rfl rfl h5808 ?_
   refine wpo_fieldAddr (o' := 1) fo_45_1 rfl rfl rfl ?_
   refine wpo_run rfl rfl rfl h5808 ?_
   refine wpo_loadn (vs := [.int .i64 m.t.lab.s, .int .i64 m.t.lab.v]) rt_40 rfl rfl (k5807.rangeL 1 2 rfl) rfl ?_
   refine wpo_run rfl rfl rfl h5808 ?_
   refine wpo_fieldAddr (o' := 1) fo_45_1 rfl rfl rfl ?_
   refine wpo_run rfl rfl rfl h5808 ?_
   refine wpo_loadn (vs := [.int .i64 p.t.lab.s, .int .i64 p.t.lab.v]) rt_40 rfl rfl (hN5803.blk.rangeL 1 2 rfl) rfl ?_
   refine wpo_run rfl rfl rfl h5808 ?_
   refine wpo_eqs (q := !(decide (m.t.lab = p.t.lab))) rfl rfl (neG_40 _ _ m.t.lab p.t.lab _) (neV_40 m.t.lab p.t.lab _) rfl rfl ?_
   refine wpo_pickf (v := .bool (!(decide (m.t.lab = p.t.lab)))) rfl h5808 rfl rfl ?_
   refine wpo_move (v := .bool (!(decide (m.t.lab = p.t.lab)))) rfl rfl ?_
   rcases bcases (!(decide (m.t.lab = p.t.lab))) with h5813 | h5813
   ·
    have h5814 := nt_t h5813
    have h5815 := of_decide_eq_false h5814
    iterate 5 refine wpo_pass rfl rfl rfl h5813 rfl ?_
    refine wpo_pickt (v := .bool true) rfl h5813 rfl rfl ?_
    refine wpo_move (v := .bool true) rfl rfl ?_
    iterate 5 refine wpo_pass rfl rfl rfl rfl rfl ?_
    refine wpo_pickt (v := .bool true) rfl rfl rfl rfl ?_
    refine wpo_move (v := .bool true) rfl rfl ?_
    iterate 5 refine wpo_pass rfl rfl rfl rfl rfl ?_
    refine wpo_pickt (v := .bool true) rfl rfl rfl rfl ?_
    refine wpo_move (v := .bool true) rfl rfl ?_
    iterate 7 refine wpo_pass rfl rfl rfl rfl rfl ?_
    refine wpo_pickt (v := .bool true) rfl rfl rfl rfl ?_
    refine wpo_move (v := .bool true) rfl rfl ?_
    iterate 7 refine wpo_pass rfl rfl rfl rfl rfl ?_
    refine wpo_pickt (v := .bool true) rfl rfl rfl rfl ?_
    exact wpo_nil ⟨⟨rfl, rfl, rfl, (congrArg Value.bool (by first | (simp only [h5808, h5811, h5813, h5814, b0, b1, b2, b3, b4, b5, b6, b7, b8, b9]; done) | simp [h5808, h5811, h5813, h5814]))⟩, rfl⟩
   ·
    have h5816 := nt_f h5813
    have h5817 := of_decide_eq_true h5816
    refine wpo_run rfl rfl rfl h5813 ?_
    refine wpo_fieldAddr (o' := 3) fo_45_2 rfl rfl rfl ?_
    refine wpo_run rfl rfl rfl h5813 ?_
    refine wpo_load1 (v := .int .i64 m.t.ve) ot_3 rfl (k5807.cell rfl) rfl ?_
    refine wpo_run rfl rfl rfl h5813 ?_
    refine wpo_fieldAddr (o' := 3) fo_45_2 rfl rfl rfl ?_
    refine wpo_run rfl rfl rfl h5813 ?_
    refine wpo_load1 (v := .int .i64 p.t.ve) ot_3 rfl (hN5803.blk.cell rfl) rfl ?_
    refine wpo_run rfl rfl rfl h5813 ?_
    refine wpo_neq (q := !(decide (m.t.ve = p.t.ve))) rfl rfl rfl rfl ?_
    refine wpo_pickf (v := .bool (!(decide (m.t.ve = p.t.ve)))) rfl h5813 rfl rfl ?_
    refine wpo_move (v := .bool (!(decide (m.t.ve = p.t.ve)))) rfl rfl ?_
    rcases bcases (!(decide (m.t.ve = p.t.ve))) with h5818 | h5818
    ·
     have h5819 := nt_t h5818
     have h5820 := of_decide_eq_false h5819
     iterate 5 refine wpo_pass rfl rfl rfl h5818 rfl ?_
     refine wpo_pickt (v := .bool true) rfl h5818 rfl rfl ?_
     refine wpo_move (v := .bool true) rfl rfl ?_
     iterate 5 refine wpo_pass rfl rfl rfl rfl rfl ?_
     refine wpo_pickt (v := .bool true) rfl rfl rfl rfl ?_
     refine wpo_move (v := .bool true) rfl rfl ?_
     iterate 7 refine wpo_pass rfl rfl rfl rfl rfl ?_
     refine wpo_pickt (v := .bool true) rfl rfl rfl rfl ?_
     refine wpo_move (v := .bool true) rfl rfl ?_
     iterate 7 refine wpo_pass rfl rfl rfl rfl rfl ?_
     refine wpo_pickt (v := .bool true) rfl rfl rfl rfl ?_
     exact wpo_nil ⟨⟨rfl, rfl, rfl, (congrArg Value.bool (by first | (simp only [h5808, h5811, h5813, h5816, h5818, h5819, b0, b1, b2, b3, b4, b5, b6, b7, b8, b9]; done) | simp [h5808, h5811, h5813, h5816, h5818, h5819]))⟩, rfl⟩
    ·
     have h5821 := nt_f h5818
     have h5822 := of_decide_eq_true h5821
     refine wpo_run rfl rfl rfl h5818 ?_
     refine wpo_fieldAddr (o' := 4) fo_45_3 rfl rfl rfl ?_
     refine wpo_run rfl rfl rfl h5818 ?_
     refine wpo_load1 (v := .int .i64 m.t.num) ot_3 rfl (k5807.cell rfl) rfl ?_
     refine wpo_run rfl rfl rfl h5818 ?_
     refine wpo_fieldAddr (o' := 4) fo_45_3 rfl rfl rfl ?_
     refine wpo_run rfl rfl rfl h5818 ?_
     refine wpo_load1 (v := .int .i64 p.t.num) ot_3 rfl (hN5803.blk.cell rfl) rfl ?_
     refine wpo_run rfl rfl rfl h5818 ?_
     refine wpo_neq (q := !(decide (m.t.num = p.t.num))) rfl rfl rfl rfl ?_
     refine wpo_pickf (v := .bool (!(decide (m.t.num = p.t.num)))) rfl h5818 rfl rfl ?_
     refine wpo_move (v := .bool (!(decide (m.t.num = p.t.num)))) rfl rfl ?_
     rcases bcases (!(decide (m.t.num = p.t.num))) with h5823 | h5823
     ·
      have h5824 := nt_t h5823
      have h5825 := of_decide_eq_false h5824
      iterate 5 refine wpo_pass rfl rfl rfl h5823 rfl ?_
      refine wpo_pickt (v := .bool true) rfl h5823 rfl rfl ?_
      refine wpo_move (v := .bool true) rfl rfl ?_
      iterate 7 refine wpo_pass rfl rfl rfl rfl rfl ?_
      refine wpo_pickt (v := .bool true) rfl rfl rfl rfl ?_
      refine wpo_move (v := .bool true) rfl rfl ?_
      iterate 7 refine wpo_pass rfl rfl rfl rfl rfl ?_
      refine wpo_pickt (v := .bool true) rfl rfl rfl rfl ?_
      exact wpo_nil ⟨⟨rfl, rfl, rfl, (congrArg Value.bool (by first | (simp only [h5808, h5811, h5813, h5816, h5818, h5821, h5823, h5824, b0, b1, b2, b3, b4, b5, b6, b7, b8, b9]; done) | simp [h5808, h5811, h5813, h5816, h5818, h5821, h5823, h5824]))⟩, rfl⟩
     ·
      have h5826 := nt_f h5823
      have h5827 := of_decide_eq_true h5826
      refine wpo_run rfl rfl rfl h5823 ?_
      refine wpo_fieldAddr (o' := 7) fo_45_6 rfl rfl rfl ?_
      refine wpo_run rfl rfl rfl h5823 ?_
      refine wpo_load1 (v := .int .i64 m.t.to) ot_3 rfl (k5807.cell rfl) rfl ?_
      refine wpo_run rfl rfl rfl h5823 ?_
      refine wpo_fieldAddr (o' := 7) fo_45_6 rfl rfl rfl ?_
      refine wpo_run rfl rfl rfl h5823 ?_
      refine wpo_load1 (v := .int .i64 p.t.to) ot_3 rfl (hN5803.blk.cell rfl) rfl ?_
      refine wpo_run rfl rfl rfl h5823 ?_
      refine wpo_neq (q := !(decide (m.t.to = p.t.to))) rfl rfl rfl rfl ?_
      refine wpo_pickf (v := .bool (!(decide (m.t.to = p.t.to)))) rfl h5823 rfl rfl ?_
      refine wpo_move (v := .bool (!(decide (m.t.to = p.t.to)))) rfl rfl ?_
      rcases bcases (!(decide (m.t.to = p.t.to))) with h5828 | h5828
      ·
       have h5829 := nt_t h5828
       have h5830 := of_decide_eq_false h5829
       iterate 7 refine wpo_pass rfl rfl rfl h5828 rfl ?_
       refine wpo_pickt (v := .bool true) rfl h5828 rfl rfl ?_
       refine wpo_move (v := .bool true) rfl rfl ?_
       iterate 7 refine wpo_pass rfl rfl rfl rfl rfl ?_
       refine wpo_pickt (v := .bool true) rfl rfl rfl rfl ?_
       exact wpo_nil ⟨⟨rfl, rfl, rfl, (congrArg Value.bool (by first | (simp only [h5808, h5811, h5813, h5816, h5818, h5821, h5823, h5826, h5828, h5829, b0, b1, b2, b3, b4, b5, b6, b7, b8, b9]; done) | simp [h5808, h5811, h5813, h5816, h5818, h5821, h5823, h5826, h5828, h5829]))⟩, rfl⟩
      ·
       have h5831 := nt_f h5828
       have h5832 := of_decide_eq_true h5831
       refine wpo_run rfl rfl rfl h5828 ?_
       refine wpo_fieldAddr (o' := 5) fo_45_4 rfl rfl rfl ?_
       refine wpo_run rfl rfl rfl h5828 ?_
       refine wpo_load1 (v := .slice m.sa m.t.slots.length m.sc) ot_27 rfl (k5807.cell rfl) rfl ?_
       refine wpo_run rfl rfl rfl h5828 ?_
       refine wpo_len (by kernel_rfl) rfl rfl ?_
       refine wpo_run rfl rfl rfl h5828 ?_
       refine wpo_fieldAddr (o' := 5) fo_45_4 rfl rfl rfl ?_
       refine wpo_run rfl rfl rfl h5828 ?_
       refine wpo_load1 (v := .slice p.sa p.t.slots.length p.sc) ot_27 rfl (hN5803.blk.cell rfl) rfl ?_
       refine wpo_run rfl rfl rfl h5828 ?_
       refine wpo_len (by kernel_rfl) rfl rfl ?_
       refine wpo_run rfl rfl rfl h5828 ?_
       refine wpo_neq (q := !(decide ((m.t.slots.length : Int) = (p.t.slots.length : Int)))) rfl rfl rfl rfl ?_
       refine wpo_pickf (v := .bool (!(decide ((m.t.slots.length : Int) = (p.t.slots.length : Int))))) rfl h5828 rfl rfl ?_
       refine wpo_move (v := .bool (!(decide ((m.t.slots.length : Int) = (p.t.slots.length : Int))))) rfl rfl ?_
       rcases bcases (!(decide ((m.t.slots.length : Int) = (p.t.slots.length : Int)))) with h5833 | h5833
       ·
        have h5834 := nt_t h5833
        have h5835 := of_decide_eq_false h5834
        iterate 7 refine wpo_pass rfl rfl rfl h5833 rfl ?_
        refine wpo_pickt (v := .bool true) rfl h5833 rfl rfl ?_
        exact wpo_nil ⟨⟨rfl, rfl, rfl, (congrArg Value.bool (by first | (simp only [h5808, h5811, h5813, h5816, h5818, h5821, h5823, h5826, h5828, h5831, h5833, h5834, b0, b1, b2, b3, b4, b5, b6, b7, b8, b9]; done) | simp [h5808, h5811, h5813, h5816, h5818, h5821, h5823, h5826, h5828, h5831, h5833, h5834]))⟩, rfl⟩
       ·
        have h5836 := nt_f h5833
        have h5837 := of_decide_eq_true h5836
        refine wpo_run rfl rfl rfl h5833 ?_
        refine wpo_fieldAddr (o' := 6) fo_45_5 rfl rfl rfl ?_
        refine wpo_run rfl rfl rfl h5833 ?_
        refine wpo_load1 (v := .slice m.qa m.t.queue.length m.qc) ot_43 rfl (k5807.cell rfl) rfl ?_
        refine wpo_run rfl rfl rfl h5833 ?_
        refine wpo_len (by kernel_rfl) rfl rfl ?_
        refine wpo_run rfl rfl rfl h5833 ?_
        refine wpo_fieldAddr (o' := 6) fo_45_5 rfl rfl rfl ?_
        refine wpo_run rfl rfl rfl h5833 ?_
        refine wpo_load1 (v := .slice p.qa p.t.queue.length p.qc) ot_43 rfl (hN5803.blk.cell rfl) rfl ?_
        refine wpo_run rfl rfl rfl h5833 ?_
        refine wpo_len (by kernel_rfl) rfl rfl ?_
        refine wpo_run rfl rfl rfl h5833 ?_
        refine wpo_neq (q := !(decide ((m.t.queue.length : Int) = (p.t.queue.length : Int)))) rfl rfl rfl rfl ?_
        refine wpo_pickf (v := .bool (!(decide ((m.t.queue.length : Int) = (p.t.queue.length : Int))))) rfl h5833 rfl rfl ?_
        exact wpo_nil ⟨⟨rfl, rfl, rfl, (congrArg Value.bool (by first | (simp only [h5808, h5811, h5813, h5816, h5818, h5821, h5823, h5826, h5828, h5831, h5833, h5836, b0, b1, b2, b3, b4, b5, b6, b7, b8, b9]; done) | simp [h5808, h5811, h5813, h5816, h5818, h5821, h5823, h5826, h5828, h5831, h5833, h5836]))⟩, rfl⟩
 ·
  rintro f5838 w5839 ⟨⟨e5840, e5841, e5842, e5843⟩, rfl⟩
  refine wpf_cond e5843 (fun h5844 => ?_) (fun h5844 => ?_)
  ·
   refine wpf_seq_region ?_
   refine wpo_assign (v := .bool false) rfl rfl ?_
   refine wpo_nil ?_
   refine wpf_ret ?_
   refine thn_r ?_
   refine ⟨.bool false, res1 rfl rfl, ?_, hb5804⟩
   exact congrArg Value.bool (decide_eq_false (fun e => by have h := h5844; rw [e] at h; simp at h)).symm
  ·
   have h5845 := or_l h5844
   have h5846 := or_l h5845
   have h5847 := or_l h5846
   have h5848 := or_l h5847
   have h5849 := or_l h5848
   have h5850 := or_l h5849
   have h5851 := nt_f h5850
   have h5852 := of_decide_eq_true h5851
   have h5853 := or_r h5849
   have h5854 := nt_f h5853
   have h5855 := of_decide_eq_true h5854
   have h5856 := or_r h5848
   have h5857 := nt_f h5856
   have h5858 := of_decide_eq_true h5857
   have h5859 := or_r h5847
   have h5860 := nt_f h5859
   have h5861 := of_decide_eq_true h5860
   have h5862 := or_r h5846
   have h5863 := nt_f h5862
   have h5864 := of_decide_eq_true h5863
   have h5865 := or_r h5845
   have h5866 := nt_f h5865
   have h5867 := of_decide_eq_true h5866
   have h5868 := or_r h5844
   have h5869 := nt_f h5868
   have h5870 := of_decide_eq_true h5869
   refine wpf_skip ?_
   refine thn_n ?_
   refine wpf_seq ?_
   refine wpf_seq_region ?_
   refine wpo_assign (v := .int .i64 0) rfl rfl ?_
   refine wpo_nil ?_
   refine wpf_block ?_
   have k5871 := (hN5799.blk.grown0 hN5803.grw)
   refine wpf_loopN (fun mm f' w' => ∃ (k : Nat), mm = m.t.slots.length - k ∧ k ≤ m.t.slots.length ∧ m.t.slots.take k = p.t.slots.take k ∧ f' 5 = .int .i64 (k : Int) ∧ f' 2 = .pointer (some ⟨B5797, 0, none⟩) ∧ f' 3 = .pointer (some ⟨B5801, 0, none⟩) ∧ w.grownBy w' none ∧ Blk w' B5797 45 #[.int .i64 m.t.kind, .int .i64 m.t.lab.s, .int .i64 m.t.lab.v, .int .i64 m.t.ve, .int .i64 m.t.num, .slice m.sa m.t.slots.length m.sc, .slice m.qa m.t.queue.length m.qc, .int .i64 m.t.to] ∧ Blk w' B5801 45 #[.int .i64 p.t.kind, .int .i64 p.t.lab.s, .int .i64 p.t.lab.v, .int .i64 p.t.ve, .int .i64 p.t.num, .slice p.sa p.t.slots.length p.sc, .slice p.qa p.t.queue.length p.qc, .int .i64 p.t.to]) (m.t.slots.length - 0) ⟨0, rfl, (Nat.zero_le _), rfl, rfl, e5840, e5841, hb5804, k5871, hN5803.blk⟩ ?_
   rintro mm f5872 w5873 ⟨k, hm5875, hk, hs5, e5876, e5877, e5878, hb5874, k5879, k5880⟩
   refine wpf_seq ?_
   refine wpf_seq_region ?_
   refine wpo_move (v := .int .i64 (k : Int)) e5876 rfl ?_
   refine wpo_fieldAddr (o' := 5) fo_45_4 e5877 rfl rfl ?_
   refine wpo_load1 (v := .slice m.sa m.t.slots.length m.sc) ot_27 rfl (k5879.cell rfl) rfl ?_
   refine wpo_len (by kernel_rfl) rfl rfl ?_
   refine wpo_lss (q := decide ((k : Int) < (m.t.slots.length : Int))) rfl rfl rfl rfl ?_
   refine wpo_nil ?_
   refine wpf_cond rfl (fun h5881 => ?_) (fun h5881 => ?_)
   ·
    have h5882 := of_decide_eq_true h5881
    refine wpf_skip ?_
    refine thn_n ?_
    refine wpf_seq ?_
    refine wpf_block ?_
    refine wpf_seq ?_
    obtain ⟨x5915, hx5916⟩ := get_lt (l := m.t.slots) (i := k) (by omega)
    obtain ⟨b5917, q5918, o5919, ha5920, ho5921, hr5922⟩ := SlAt.at ha.1 (map_get hx5916)
    obtain ⟨x5923, hx5924⟩ := get_lt (l := p.t.slots) (i := k) (by omega)
    obtain ⟨b5925, q5926, o5927, ha5928, ho5929, hr5930⟩ := SlAt.at hb.1 (map_get hx5924)
    refine wpf_draw (m := 10) (vals := [(65, .pointer (some ⟨B5797, 5, none⟩)), (66, .slice m.sa m.t.slots.length m.sc), (67, .int .i64 (k : Int)), (68, .pointer (some ⟨b5917, o5919, none⟩)), (69, .agg #[.int .i64 x5915.th, .int .i64 x5915.ve, .bool x5915.rd, .bool x5915.wr, .bool x5915.wk]), (70, .pointer (some ⟨B5801, 5, none⟩)), (71, .slice p.sa p.t.slots.length p.sc), (72, .int .i64 (k : Int)), (73, .pointer (some ⟨b5925, o5927, none⟩)), (74, .agg #[.int .i64 x5923.th, .int .i64 x5923.ve, .bool x5923.rd, .bool x5923.wr, .bool x5923.wk])]) (fun w' => w5873.grownBy w' none) mixed_ (by kernel_rfl) (grown_drew _) ?_ ?_
    ·
     refine yll_cons rfl (fun w5931 hi5932 => ?_) ?_
     ·
      have hb5933 := low0 hb5874 hi5932
      refine wpo_fieldAddr (o' := 5) fo_45_4 e5877 rfl rfl ?_
      exact wpo_nil ⟨rfl, hi5932⟩
     refine yll_cons rfl (fun w5934 hi5935 => ?_) ?_
     ·
      have hb5936 := low0 hb5874 hi5935
      have k5937 := (k5879.grown0 hi5935)
      refine wpo_load1 (v := .slice m.sa m.t.slots.length m.sc) ot_27 rfl (k5937.cell rfl) rfl ?_
      exact wpo_nil ⟨rfl, hi5935⟩
     refine yll_cons rfl (fun w5938 hi5939 => ?_) ?_
     ·
      have hb5940 := low0 hb5874 hi5939
      refine wpo_move (v := .int .i64 (k : Int)) e5876 rfl ?_
      exact wpo_nil ⟨rfl, hi5939⟩
     refine yll_cons rfl (fun w5941 hi5942 => ?_) ?_
     ·
      have hb5943 := low0 hb5874 hi5942
      refine wpo_indexE es_27 rfl rfl ha5920 ho5921 (by omega) (by omega) rfl ?_
      exact wpo_nil ⟨rfl, hi5942⟩
     refine yll_cons rfl (fun w5944 hi5945 => ?_) ?_
     ·
      have hb5946 := low0 hb5874 hi5945
      refine wpo_loadn (vs := [.int .i64 x5915.th, .int .i64 x5915.ve, .bool x5915.rd, .bool x5915.wr, .bool x5915.wk]) rt_29 rfl rfl (range_sub (range_low hr5922 hb5946) 0 5 rfl) rfl ?_
      exact wpo_nil ⟨rfl, hi5945⟩
     refine yll_cons rfl (fun w5947 hi5948 => ?_) ?_
     ·
      have hb5949 := low0 hb5874 hi5948
      refine wpo_fieldAddr (o' := 5) fo_45_4 e5878 rfl rfl ?_
      exact wpo_nil ⟨rfl, hi5948⟩
     refine yll_cons rfl (fun w5950 hi5951 => ?_) ?_
     ·
      have hb5952 := low0 hb5874 hi5951
      have k5953 := (k5880.grown0 hi5951)
      refine wpo_load1 (v := .slice p.sa p.t.slots.length p.sc) ot_27 rfl (k5953.cell rfl) rfl ?_
      exact wpo_nil ⟨rfl, hi5951⟩
     refine yll_cons rfl (fun w5954 hi5955 => ?_) ?_
     ·
      have hb5956 := low0 hb5874 hi5955
      refine wpo_move (v := .int .i64 (k : Int)) e5876 rfl ?_
      exact wpo_nil ⟨rfl, hi5955⟩
     refine yll_cons rfl (fun w5957 hi5958 => ?_) ?_
     ·
      have hb5959 := low0 hb5874 hi5958
      refine wpo_indexE es_27 rfl rfl ha5928 ho5929 (by omega) (by omega) rfl ?_
      exact wpo_nil ⟨rfl, hi5958⟩
     refine yll_cons rfl (fun w5960 hi5961 => ?_) ?_
     ·
      have hb5962 := low0 hb5874 hi5961
      refine wpo_loadn (vs := [.int .i64 x5923.th, .int .i64 x5923.ve, .bool x5923.rd, .bool x5923.wr, .bool x5923.wk]) rt_29 rfl rfl (range_sub (range_low hr5930 hb5962) 0 5 rfl) rfl ?_
      exact wpo_nil ⟨rfl, hi5961⟩
     exact yll_nil
    ·
     intro w5963 hi5964
     have hb5965 := low0 hb5874 hi5964
     refine wpo_eqs (q := !(decide (x5915 = x5923))) rfl rfl (neG_29 _ _ x5915 x5923 _) (neV_29 x5915 x5923 _) rfl rfl ?_
     refine wpo_nil ?_
     refine thn_n ?_
     refine wpf_cond rfl (fun h5966 => ?_) (fun h5966 => ?_)
     ·
      have h5967 := nt_t h5966
      have h5968 := of_decide_eq_false h5967
      refine wpf_seq_region ?_
      refine wpo_assign (v := .bool false) rfl rfl ?_
      refine wpo_nil ?_
      refine wpf_ret ?_
      refine blk_r ?_
      refine thn_r ?_
      refine thn_r ?_
      refine blk_r ?_
      refine thn_r ?_
      refine ⟨.bool false, res1 rfl rfl, ?_, hb5965⟩
      exact congrArg Value.bool (decide_eq_false (fun e => ne_of_at hx5916 hx5924 (of_decide_eq_false h5967) (congrArg Th.slots e))).symm
     ·
      have h5969 := nt_f h5966
      have h5970 := of_decide_eq_true h5969
      refine wpf_skip ?_
      refine blk_n ?_
      refine thn_n ?_
      refine wpf_region ?_
      refine wpo_move (v := .int .i64 (k : Int)) e5876 rfl ?_
      refine wpo_add (c := (k : Int) + 1) rfl rfl (by omega) (by omega) (by omega) rfl ?_
      refine wpo_assign (v := .int .i64 ((k : Int) + 1)) rfl rfl ?_
      refine wpo_nil ?_
      refine thn_n ?_
      have k5971 := (k5879.grown0 hi5964)
      have k5972 := (k5880.grown0 hi5964)
      exact ⟨m.t.slots.length - (k + 1), by omega, (k + 1), rfl, (by omega), (take_eq_succ hs5 hx5916 hx5924 (of_decide_eq_true h5969)), rfl, e5877, e5878, hb5965, k5971, k5972⟩
   ·
    have h5973 := of_decide_eq_false h5881
    refine wpf_exit ?_
    refine thn_e ?_
    refine thn_e ?_
    refine blk_e ?_
    refine thn_n ?_
    refine wpf_seq ?_
    refine wpf_seq_region ?_
    refine wpo_assign (v := .int .i64 0) rfl rfl ?_
    refine wpo_nil ?_
    refine wpf_block ?_
    refine wpf_loopN (fun mm f' w' => ∃ (j : Nat), mm = m.t.queue.length - j ∧ j ≤ m.t.queue.length ∧ m.t.queue.take j = p.t.queue.take j ∧ f' 6 = .int .i64 (j : Int) ∧ f' 2 = .pointer (some ⟨B5797, 0, none⟩) ∧ f' 3 = .pointer (some ⟨B5801, 0, none⟩) ∧ w.grownBy w' none ∧ Blk w' B5797 45 #[.int .i64 m.t.kind, .int .i64 m.t.lab.s, .int .i64 m.t.lab.v, .int .i64 m.t.ve, .int .i64 m.t.num, .slice m.sa m.t.slots.length m.sc, .slice m.qa m.t.queue.length m.qc, .int .i64 m.t.to] ∧ Blk w' B5801 45 #[.int .i64 p.t.kind, .int .i64 p.t.lab.s, .int .i64 p.t.lab.v, .int .i64 p.t.ve, .int .i64 p.t.num, .slice p.sa p.t.slots.length p.sc, .slice p.qa p.t.queue.length p.qc, .int .i64 p.t.to]) (m.t.queue.length - 0) ⟨0, rfl, (Nat.zero_le _), rfl, rfl, e5877, e5878, hb5874, k5879, k5880⟩ ?_
    rintro mm f5974 w5975 ⟨j, hm5977, hj, hq6, e5978, e5979, e5980, hb5976, k5981, k5982⟩
    refine wpf_seq ?_
    refine wpf_seq_region ?_
    refine wpo_move (v := .int .i64 (j : Int)) e5978 rfl ?_
    refine wpo_fieldAddr (o' := 6) fo_45_5 e5979 rfl rfl ?_
    refine wpo_load1 (v := .slice m.qa m.t.queue.length m.qc) ot_43 rfl (k5981.cell rfl) rfl ?_
    refine wpo_len (by kernel_rfl) rfl rfl ?_
    refine wpo_lss (q := decide ((j : Int) < (m.t.queue.length : Int))) rfl rfl rfl rfl ?_
    refine wpo_nil ?_
    refine wpf_cond rfl (fun h5983 => ?_) (fun h5983 => ?_)
    ·
     have h5984 := of_decide_eq_true h5983
     refine wpf_skip ?_
     refine thn_n ?_
     refine wpf_seq ?_
     refine wpf_block ?_
     refine wpf_seq ?_
     obtain ⟨x6017, hx6018⟩ := get_lt (l := m.t.queue) (i := j) (by omega)
     obtain ⟨b6019, q6020, o6021, ha6022, ho6023, hr6024⟩ := SlAt.at ha.2.1 (map_get hx6018)
     obtain ⟨x6025, hx6026⟩ := get_lt (l := p.t.queue) (i := j) (by omega)
     obtain ⟨b6027, q6028, o6029, ha6030, ho6031, hr6032⟩ := SlAt.at hb.2.1 (map_get hx6026)
     refine wpf_draw (m := 10) (vals := [(83, .pointer (some ⟨B5797, 6, none⟩)), (84, .slice m.qa m.t.queue.length m.qc), (85, .int .i64 (j : Int)), (86, .pointer (some ⟨b6019, o6021, none⟩)), (87, .int .i64 x6017), (88, .pointer (some ⟨B5801, 6, none⟩)), (89, .slice p.qa p.t.queue.length p.qc), (90, .int .i64 (j : Int)), (91, .pointer (some ⟨b6027, o6029, none⟩)), (92, .int .i64 x6025)]) (fun w' => w5975.grownBy w' none) mixed_ (by kernel_rfl) (grown_drew _) ?_ ?_
     ·
      refine yll_cons rfl (fun w6033 hi6034 => ?_) ?_
      ·
       have hb6035 := low0 hb5976 hi6034
       refine wpo_fieldAddr (o' := 6) fo_45_5 e5979 rfl rfl ?_
       exact wpo_nil ⟨rfl, hi6034⟩
      refine yll_cons rfl (fun w6036 hi6037 => ?_) ?_
      ·
       have hb6038 := low0 hb5976 hi6037
       have k6039 := (k5981.grown0 hi6037)
       refine wpo_load1 (v := .slice m.qa m.t.queue.length m.qc) ot_43 rfl (k6039.cell rfl) rfl ?_
       exact wpo_nil ⟨rfl, hi6037⟩
      refine yll_cons rfl (fun w6040 hi6041 => ?_) ?_
      ·
       have hb6042 := low0 hb5976 hi6041
       refine wpo_move (v := .int .i64 (j : Int)) e5978 rfl ?_
       exact wpo_nil ⟨rfl, hi6041⟩
      refine yll_cons rfl (fun w6043 hi6044 => ?_) ?_
      ·
       have hb6045 := low0 hb5976 hi6044
       refine wpo_indexE es_43 rfl rfl ha6022 ho6023 (by omega) (by omega) rfl ?_
       exact wpo_nil ⟨rfl, hi6044⟩
      refine yll_cons rfl (fun w6046 hi6047 => ?_) ?_
      ·
       have hb6048 := low0 hb5976 hi6047
       refine wpo_load1 (v := .int .i64 x6017) ot_3 rfl ((range_low hr6024 hb6048) 0 _ rfl) rfl ?_
       exact wpo_nil ⟨rfl, hi6047⟩
      refine yll_cons rfl (fun w6049 hi6050 => ?_) ?_
      ·
       have hb6051 := low0 hb5976 hi6050
       refine wpo_fieldAddr (o' := 6) fo_45_5 e5980 rfl rfl ?_
       exact wpo_nil ⟨rfl, hi6050⟩
      refine yll_cons rfl (fun w6052 hi6053 => ?_) ?_
      ·
       have hb6054 := low0 hb5976 hi6053
       have k6055 := (k5982.grown0 hi6053)
       refine wpo_load1 (v := .slice p.qa p.t.queue.length p.qc) ot_43 rfl (k6055.cell rfl) rfl ?_
       exact wpo_nil ⟨rfl, hi6053⟩
      refine yll_cons rfl (fun w6056 hi6057 => ?_) ?_
      ·
       have hb6058 := low0 hb5976 hi6057
       refine wpo_move (v := .int .i64 (j : Int)) e5978 rfl ?_
       exact wpo_nil ⟨rfl, hi6057⟩
      refine yll_cons rfl (fun w6059 hi6060 => ?_) ?_
      ·
       have hb6061 := low0 hb5976 hi6060
       refine wpo_indexE es_43 rfl rfl ha6030 ho6031 (by omega) (by omega) rfl ?_
       exact wpo_nil ⟨rfl, hi6060⟩
      refine yll_cons rfl (fun w6062 hi6063 => ?_) ?_
      ·
       have hb6064 := low0 hb5976 hi6063
       refine wpo_load1 (v := .int .i64 x6025) ot_3 rfl ((range_low hr6032 hb6064) 0 _ rfl) rfl ?_
       exact wpo_nil ⟨rfl, hi6063⟩
      exact yll_nil
     ·
      intro w6065 hi6066
      have hb6067 := low0 hb5976 hi6066
      refine wpo_neq (q := !(decide (x6017 = x6025))) rfl rfl rfl rfl ?_
      refine wpo_nil ?_
      refine thn_n ?_
      refine wpf_cond rfl (fun h6068 => ?_) (fun h6068 => ?_)
      ·
       have h6069 := nt_t h6068
       have h6070 := of_decide_eq_false h6069
       refine wpf_seq_region ?_
       refine wpo_assign (v := .bool false) rfl rfl ?_
       refine wpo_nil ?_
       refine wpf_ret ?_
       refine blk_r ?_
       refine thn_r ?_
       refine thn_r ?_
       refine blk_r ?_
       refine thn_r ?_
       refine ⟨.bool false, res1 rfl rfl, ?_, hb6067⟩
       exact congrArg Value.bool (decide_eq_false (fun e => ne_of_at hx6018 hx6026 (of_decide_eq_false h6069) (congrArg Th.queue e))).symm
      ·
       have h6071 := nt_f h6068
       have h6072 := of_decide_eq_true h6071
       refine wpf_skip ?_
       refine blk_n ?_
       refine thn_n ?_
       refine wpf_region ?_
       refine wpo_move (v := .int .i64 (j : Int)) e5978 rfl ?_
       refine wpo_add (c := (j : Int) + 1) rfl rfl (by omega) (by omega) (by omega) rfl ?_
       refine wpo_assign (v := .int .i64 ((j : Int) + 1)) rfl rfl ?_
       refine wpo_nil ?_
       refine thn_n ?_
       have k6073 := (k5981.grown0 hi6066)
       have k6074 := (k5982.grown0 hi6066)
       exact ⟨m.t.queue.length - (j + 1), by omega, (j + 1), rfl, (by omega), (take_eq_succ hq6 hx6018 hx6026 (of_decide_eq_true h6071)), rfl, e5979, e5980, hb6067, k6073, k6074⟩
    ·
     have h6075 := of_decide_eq_false h5983
     refine wpf_exit ?_
     refine thn_e ?_
     refine thn_e ?_
     refine blk_e ?_
     refine thn_n ?_
     refine wpf_seq_region ?_
     refine wpo_assign (v := .bool true) rfl rfl ?_
     refine wpo_nil ?_
     refine wpf_ret ?_
     refine ⟨.bool true, res1 rfl rfl, ?_, hb5976⟩
     exact congrArg Value.bool (decide_eq_true (th_ext (of_decide_eq_true h5851) (of_decide_eq_true h5854) (of_decide_eq_true h5857) (of_decide_eq_true h5860) (eq_of_take hs5 (by omega) (by omega)) (eq_of_take hq6 (by omega) (by omega)) (of_decide_eq_true h5863))).symm

end Go.Proofs.Ytlkmdoebmklbbaa
