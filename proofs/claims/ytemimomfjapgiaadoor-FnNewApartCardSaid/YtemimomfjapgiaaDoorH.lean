/- Walks, printed by a program of mine (gen.py) out of the functions. -/
import Derived.Test.YtemimomfjapgiaaDoorT
namespace Go.Proofs.YtemimomfjapgiaaDoor
open Go.RowKit Go.Dw
set_option maxRecDepth 100000
set_option maxHeartbeats 4000000
set_option linter.unusedSimpArgs false
set_option linter.unusedVariables false
theorem zt_27 : zeroTy Tryd.prog 27 = some (.agg #[.int .i64 0, .int .i64 0]) := by kernel_rfl
theorem l71Label_c (p : Int) (hp : 0 ≤ p ∧ p ≤ 1000000000000) (lo R : Nat) (bs : List Int) (a : Option Addr) (c : Nat) (w : World) (hR : Blk w R 56 #[.slice a bs.length c, .int .i64 p]) (hlo : lo ≤ R) (hs : SlLt lo w a 1 (bs.map bcell)) (hb : ∀ b ∈ bs, 0 ≤ b ∧ b ≤ 255) (hn : bs.length ≤ 1048576) : CallsR Tryd.prog 56 #[.pointer (some ⟨R, 0, none⟩)] w (fun v w' => ∃ (l : Lab) (p' : Int), v = .agg #[.int .i64 l.s, .int .i64 l.v] ∧ -1 ≤ l.s ∧ l.s ≤ 4 ∧ 0 ≤ l.v ∧ l.v ≤ 3 ∧ p ≤ p' ∧ p' ≤ p + 4 ∧ Blk w' R 56 #[.slice a bs.length c, .int .i64 p'] ∧ w.grownBy w' (some R)) := by
 refine calls_of_wpf (n := 25) Tryd.func56 rfl Tryd.ntmps56 rfl ?_
 have hb0 := World.grownBy.refl w (some R)
 have hRlt := hR.lt
 refine wpf_seq_region ?_
 refine wpo_alloc (cs := #[.int .i64 0, .int .i64 0]) zt_27 rfl rfl ?_
 intro B101 w102 hN103
 have hlB101 := hN_ge hN103 hb0
 have lt_R_B101 := hN_gtl hN103 (hR).lt
 have hb104 := low0 hb0 hN103.grw
 refine wpo_nil ?_
 refine wpf_seq ?_
 have k271 := (hR.grown0 hN103.grw)
 refine wpf_drawI (m := 12) [[], [], [1], [0, 1, 2], [0, 1, 2, 3], [], [], [1, 2, 6], [1, 2, 5, 6, 7], [1, 2, 5, 6, 7, 8], [0, 1, 2, 3, 4, 5, 6, 7, 8, 9], [], [0, 1, 2, 3, 4, 5, 6, 7, 8, 9, 10, 11]] (fun S F w' => ∃ (B231 : Nat) (k237 : Int) (x245 : Int) (B248 : Nat) (k254 : Int) (x262 : Int) (B265 : Nat), w102.grownBy w' (some R) ∧ F 0 = .pointer (some ⟨R, 0, none⟩) ∧ F 2 = .pointer (some ⟨B101, 0, none⟩) ∧ (S 2 = false → Blk w' R 56 #[.slice a bs.length c, .int .i64 p]) ∧ (S 0 = true → F 4 = .slice (some ⟨B231, 0, none⟩) 5 5 ∧ w.heap.size ≤ B231 ∧ Blk w' B231 3 (([0, 0, 1, 2, 3] : List Int).flatMap icell).toArray ∧ R < B231 ∧ B101 < B231 ∧ w102.heap.size ≤ B231) ∧ (S 1 = true → F 5 = .pointer (some ⟨R, 0, none⟩)) ∧ (S 2 = true → F 6 = .int .i64 k237 ∧ 0 ≤ k237 ∧ (k237 < 5 ∨ k237 = 0) ∧ (S 7 = false → Blk w' R 56 #[.slice a bs.length c, .int .i64 (p + 1)])) ∧ (S 3 = true → F 7 = .pointer (some ⟨B231, (k237).toNat * 1, none⟩)) ∧ (S 4 = true → F 8 = .int .i64 x245 ∧ ([0, 0, 1, 2, 3] : List Int)[(k237).toNat]? = some x245 ∧ (x245 = 0 ∨ x245 = 0 ∨ x245 = 1 ∨ x245 = 2 ∨ x245 = 3)) ∧ (S 5 = true → F 9 = .slice (some ⟨B248, 0, none⟩) 4 4 ∧ w.heap.size ≤ B248 ∧ Blk w' B248 3 (([0, 0, 3, 1] : List Int).flatMap icell).toArray ∧ R < B248 ∧ B101 < B248 ∧ w102.heap.size ≤ B248) ∧ (S 6 = true → F 10 = .pointer (some ⟨R, 0, none⟩)) ∧ (S 7 = true → F 11 = .int .i64 k254 ∧ 0 ≤ k254 ∧ (k254 < 4 ∨ k254 = 0) ∧ Blk w' R 56 #[.slice a bs.length c, .int .i64 (p + 1 + 1)]) ∧ (S 8 = true → F 12 = .pointer (some ⟨B248, (k254).toNat * 1, none⟩)) ∧ (S 9 = true → F 13 = .int .i64 x262 ∧ ([0, 0, 3, 1] : List Int)[(k254).toNat]? = some x262 ∧ (x262 = 0 ∨ x262 = 0 ∨ x262 = 3 ∨ x262 = 1)) ∧ (S 10 = true → F 14 = .agg #[.int .i64 x245, .int .i64 x262]) ∧ (S 11 = true → F 3 = .pointer (some ⟨B265, 0, none⟩) ∧ w.heap.size ≤ B265 ∧ Blk w' B265 27 #[.int .i64 0, .int .i64 0] ∧ R < B265 ∧ B101 < B265 ∧ w102.heap.size ≤ B265) ∧ (S 0 = true → S 5 = true → B231 ≠ B248) ∧ (S 0 = true → S 11 = true → B231 ≠ B265) ∧ (S 5 = true → S 11 = true → B248 ≠ B265)) mixed_ (by kernel_rfl) ⟨0, 0, 0, 0, 0, 0, 0, grown_drew _, rfl, rfl, fun _ => (k271).grown0 (grown_drew _), not_begun, not_begun, not_begun, not_begun, not_begun, not_begun, not_begun, not_begun, not_begun, not_begun, not_begun, not_begun, not_begun, not_begun, not_begun⟩ ?_ ?_
 ·
  refine preL_cons (fun S F w272 hS hbef hcl hI => ?_) ?_
  ·
   obtain ⟨B231, k237, x245, B248, k254, x262, B265, hi273, e274, e275, c_old_R, c_0, c_1, c_2, c_3, c_4, c_5, c_6, c_7, c_8, c_9, c_10, c_11, pr_B231_B248, pr_B231_B265, pr_B248_B265⟩ := hI
   have hb276 := grown_trans hb104 hi273
   refine wpo_buildSlice (ps := [(0, .int .i64 0), (1, .int .i64 0), (2, .int .i64 1), (3, .int .i64 2), (4, .int .i64 3)]) (e := 3) (cs := (([0, 0, 1, 2, 3] : List Int).flatMap icell).toArray) (parts_cons rfl (parts_cons rfl (parts_cons rfl (parts_cons rfl (parts_cons rfl parts_nil))))) (fun _ => by kernel_rfl) rfl ?_
   intro B277 w278 hN279
   have hlB277 := hN_ge hN279 hb276
   have k280 := (hN103.blk.gn hi273)
   have lt_B101_B277 := hN_gtl hN279 (k280).lt
   have hb281 := low0 hb276 hN279.grw
   exact wpo_nil ⟨B277, k237, x245, B248, k254, x262, B265, (low0 hi273 hN279.grw), e274, e275, fun h => (c_old_R h).grown0 hN279.grw, fun _ => ⟨rfl, hlB277, hN279.blk, (by omega), lt_B101_B277, (Nat.le_trans hi273.size (Nat.le_of_eq hN279.eq.symm))⟩, c_1, fun h => let ⟨y282, y283, y284, y285⟩ := c_2 h; ⟨y282, y283, y284, fun hn => (y285 hn).grown0 hN279.grw⟩, fun h => undone 3 hS hcl rfl h, fun h => undone 4 hS hcl rfl h, fun h => let ⟨y286, y287, y288, y289, y290, y291⟩ := c_5 h; ⟨y286, y287, (y288).grown0 hN279.grw, y289, y290, y291⟩, c_6, fun h => let ⟨y292, y293, y294, y295⟩ := c_7 h; ⟨y292, y293, y294, (y295).grown0 hN279.grw⟩, c_8, c_9, fun h => undone 10 hS hcl rfl h, fun h => let ⟨y296, y297, y298, y299, y300, y301⟩ := c_11 h; ⟨y296, y297, (y298).grown0 hN279.grw, y299, y300, y301⟩, fun _ h => let ⟨y302, y303, y304, y305, y306, y307⟩ := c_5 h; Nat.ne_of_gt (Nat.lt_of_lt_of_le ((y304).lt) (Nat.le_of_eq hN279.eq.symm)), fun _ h => let ⟨y308, y309, y310, y311, y312, y313⟩ := c_11 h; Nat.ne_of_gt (Nat.lt_of_lt_of_le ((y310).lt) (Nat.le_of_eq hN279.eq.symm)), pr_B248_B265⟩
  refine preL_cons (fun S F w314 hS hbef hcl hI => ?_) ?_
  ·
   obtain ⟨B231, k237, x245, B248, k254, x262, B265, hi315, e316, e317, c_old_R, c_0, c_1, c_2, c_3, c_4, c_5, c_6, c_7, c_8, c_9, c_10, c_11, pr_B231_B248, pr_B231_B265, pr_B248_B265⟩ := hI
   have hb318 := grown_trans hb104 hi315
   refine wpo_move (v := .pointer (some ⟨R, 0, none⟩)) e316 rfl ?_
   exact wpo_nil ⟨B231, k237, x245, B248, k254, x262, B265, hi315, e316, e317, fun h => c_old_R h, c_0, fun _ => rfl, fun h => undone 2 hS hcl rfl h, fun h => undone 3 hS hcl rfl h, fun h => undone 4 hS hcl rfl h, c_5, c_6, fun h => undone 7 hS hcl rfl h, fun h => undone 8 hS hcl rfl h, fun h => undone 9 hS hcl rfl h, fun h => undone 10 hS hcl rfl h, c_11, pr_B231_B248, pr_B231_B265, pr_B248_B265⟩
  refine preL_cons (fun S F w319 hS hbef hcl hI => ?_) ?_
  ·
   obtain ⟨B231, k237, x245, B248, k254, x262, B265, hi320, e321, e322, c_old_R, c_0, c_1, c_2, c_3, c_4, c_5, c_6, c_7, c_8, c_9, c_10, c_11, pr_B231_B248, pr_B231_B265, pr_B248_B265⟩ := hI
   have hb323 := grown_trans hb104 hi320
   obtain e324 := c_1 (ready_of 1 hbef rfl)
   refine wpo_call (vs := [.pointer (some ⟨R, 0, none⟩), .int .i64 5]) gf_26 (args_cons e324 (args_cons rfl args_nil)) rfl (pick_c p 5 (by omega) _ R bs _ _ _ (c_old_R hS) (by omega) (SlLt.low1 hs hb323 hlo) (by first | exact hb | exact fun b h => hb b (List.mem_of_mem_take h)) (by first | omega | (rw [List.length_take]; omega))) ?_
   rintro _ w330 ⟨k325, rfl, hk326, hk327, kR328, hg329⟩
   have hb331 := grown_trans hb323 hg329
   exact wpo_nil ⟨B231, k325, x245, B248, k254, x262, B265, (grown_trans hi320 hg329), e321, e322, fun h => not_open h, fun h => let ⟨y332, y333, y334, y335, y336, y337⟩ := c_0 h; ⟨y332, y333, (y334).gn hg329, y335, y336, y337⟩, c_1, fun _ => ⟨rfl, hk326, hk327, fun _ => kR328⟩, fun h => undone 3 hS hcl rfl h, fun h => undone 4 hS hcl rfl h, fun h => let ⟨y338, y339, y340, y341, y342, y343⟩ := c_5 h; ⟨y338, y339, (y340).gn hg329, y341, y342, y343⟩, c_6, fun h => undone 7 hS hcl rfl h, fun h => undone 8 hS hcl rfl h, fun h => undone 9 hS hcl rfl h, fun h => undone 10 hS hcl rfl h, fun h => let ⟨y344, y345, y346, y347, y348, y349⟩ := c_11 h; ⟨y344, y345, (y346).gn hg329, y347, y348, y349⟩, pr_B231_B248, pr_B231_B265, pr_B248_B265⟩
  refine preL_cons (fun S F w350 hS hbef hcl hI => ?_) ?_
  ·
   obtain ⟨B231, k237, x245, B248, k254, x262, B265, hi351, e352, e353, c_old_R, c_0, c_1, c_2, c_3, c_4, c_5, c_6, c_7, c_8, c_9, c_10, c_11, pr_B231_B248, pr_B231_B265, pr_B248_B265⟩ := hI
   have hb354 := grown_trans hb104 hi351
   obtain ⟨e355, hlB231, kb_B231, lt_R_B231, lt_B101_B231, hk_B231⟩ := c_0 (ready_of 0 hbef rfl)
   obtain e356 := c_1 (ready_of 1 hbef rfl)
   obtain ⟨e357, hk238, hk239, ks2_R⟩ := c_2 (ready_of 2 hbef rfl)
   refine wpo_indexAddr (o' := (k237).toNat * 1) es_29 e355 e357 (by omega) (by omega) (by omega) rfl ?_
   exact wpo_nil ⟨B231, k237, x245, B248, k254, x262, B265, hi351, e352, e353, fun hn => not_open ((ready_of 2 hbef rfl).symm.trans hn), c_0, c_1, c_2, fun _ => rfl, fun h => undone 4 hS hcl rfl h, c_5, c_6, c_7, c_8, c_9, fun h => undone 10 hS hcl rfl h, c_11, pr_B231_B248, pr_B231_B265, pr_B248_B265⟩
  refine preL_cons (fun S F w358 hS hbef hcl hI => ?_) ?_
  ·
   obtain ⟨B231, k237, x245, B248, k254, x262, B265, hi359, e360, e361, c_old_R, c_0, c_1, c_2, c_3, c_4, c_5, c_6, c_7, c_8, c_9, c_10, c_11, pr_B231_B248, pr_B231_B265, pr_B248_B265⟩ := hI
   have hb362 := grown_trans hb104 hi359
   obtain ⟨e363, hlB231, kb_B231, lt_R_B231, lt_B101_B231, hk_B231⟩ := c_0 (ready_of 0 hbef rfl)
   obtain e364 := c_1 (ready_of 1 hbef rfl)
   obtain ⟨e365, hk238, hk239, ks2_R⟩ := c_2 (ready_of 2 hbef rfl)
   obtain e366 := c_3 (ready_of 3 hbef rfl)
   obtain ⟨x367, hx368⟩ := get_lt (l := ([0, 0, 1, 2, 3] : List Int)) (i := (k237).toNat) (show (k237).toNat < 5 by omega)
   have hm369 := List.mem_of_getElem? hx368
   simp only [List.mem_cons, List.not_mem_nil, or_false] at hm369
   refine wpo_load1 (v := .int .i64 x367) ot_3 e366 ((rows_range wide_int kb_B231 hx368) 0 _ rfl) rfl ?_
   exact wpo_nil ⟨B231, k237, x367, B248, k254, x262, B265, hi359, e360, e361, fun hn => not_open ((ready_of 2 hbef rfl).symm.trans hn), c_0, c_1, c_2, c_3, fun _ => ⟨rfl, hx368, hm369⟩, c_5, c_6, c_7, c_8, c_9, fun h => undone 10 hS hcl rfl h, c_11, pr_B231_B248, pr_B231_B265, pr_B248_B265⟩
  refine preL_cons (fun S F w370 hS hbef hcl hI => ?_) ?_
  ·
   obtain ⟨B231, k237, x245, B248, k254, x262, B265, hi371, e372, e373, c_old_R, c_0, c_1, c_2, c_3, c_4, c_5, c_6, c_7, c_8, c_9, c_10, c_11, pr_B231_B248, pr_B231_B265, pr_B248_B265⟩ := hI
   have hb374 := grown_trans hb104 hi371
   refine wpo_buildSlice (ps := [(0, .int .i64 0), (1, .int .i64 0), (2, .int .i64 3), (3, .int .i64 1)]) (e := 3) (cs := (([0, 0, 3, 1] : List Int).flatMap icell).toArray) (parts_cons rfl (parts_cons rfl (parts_cons rfl (parts_cons rfl parts_nil)))) (fun _ => by kernel_rfl) rfl ?_
   intro B375 w376 hN377
   have hlB375 := hN_ge hN377 hb374
   have k378 := (hN103.blk.gn hi371)
   have lt_B101_B375 := hN_gtl hN377 (k378).lt
   have hb379 := low0 hb374 hN377.grw
   exact wpo_nil ⟨B231, k237, x245, B375, k254, x262, B265, (low0 hi371 hN377.grw), e372, e373, fun h => (c_old_R h).grown0 hN377.grw, fun h => let ⟨y380, y381, y382, y383, y384, y385⟩ := c_0 h; ⟨y380, y381, (y382).grown0 hN377.grw, y383, y384, y385⟩, c_1, fun h => let ⟨y386, y387, y388, y389⟩ := c_2 h; ⟨y386, y387, y388, fun hn => (y389 hn).grown0 hN377.grw⟩, c_3, c_4, fun _ => ⟨rfl, hlB375, hN377.blk, (by omega), lt_B101_B375, (Nat.le_trans hi371.size (Nat.le_of_eq hN377.eq.symm))⟩, c_6, fun h => let ⟨y390, y391, y392, y393⟩ := c_7 h; ⟨y390, y391, y392, (y393).grown0 hN377.grw⟩, fun h => undone 8 hS hcl rfl h, fun h => undone 9 hS hcl rfl h, fun h => undone 10 hS hcl rfl h, fun h => let ⟨y394, y395, y396, y397, y398, y399⟩ := c_11 h; ⟨y394, y395, (y396).grown0 hN377.grw, y397, y398, y399⟩, fun h _ => let ⟨y400, y401, y402, y403, y404, y405⟩ := c_0 h; Nat.ne_of_lt (Nat.lt_of_lt_of_le ((y402).lt) (Nat.le_of_eq hN377.eq.symm)), pr_B231_B265, fun _ h => let ⟨y406, y407, y408, y409, y410, y411⟩ := c_11 h; Nat.ne_of_gt (Nat.lt_of_lt_of_le ((y408).lt) (Nat.le_of_eq hN377.eq.symm))⟩
  refine preL_cons (fun S F w412 hS hbef hcl hI => ?_) ?_
  ·
   obtain ⟨B231, k237, x245, B248, k254, x262, B265, hi413, e414, e415, c_old_R, c_0, c_1, c_2, c_3, c_4, c_5, c_6, c_7, c_8, c_9, c_10, c_11, pr_B231_B248, pr_B231_B265, pr_B248_B265⟩ := hI
   have hb416 := grown_trans hb104 hi413
   refine wpo_move (v := .pointer (some ⟨R, 0, none⟩)) e414 rfl ?_
   exact wpo_nil ⟨B231, k237, x245, B248, k254, x262, B265, hi413, e414, e415, fun h => c_old_R h, c_0, c_1, c_2, c_3, c_4, c_5, fun _ => rfl, fun h => undone 7 hS hcl rfl h, fun h => undone 8 hS hcl rfl h, fun h => undone 9 hS hcl rfl h, fun h => undone 10 hS hcl rfl h, c_11, pr_B231_B248, pr_B231_B265, pr_B248_B265⟩
  refine preL_cons (fun S F w417 hS hbef hcl hI => ?_) ?_
  ·
   obtain ⟨B231, k237, x245, B248, k254, x262, B265, hi418, e419, e420, c_old_R, c_0, c_1, c_2, c_3, c_4, c_5, c_6, c_7, c_8, c_9, c_10, c_11, pr_B231_B248, pr_B231_B265, pr_B248_B265⟩ := hI
   have hb421 := grown_trans hb104 hi418
   obtain e422 := c_1 (ready_of 1 hbef rfl)
   obtain ⟨e423, hk238, hk239, ks2_R⟩ := c_2 (ready_of 2 hbef rfl)
   obtain e424 := c_6 (ready_of 6 hbef rfl)
   refine wpo_call (vs := [.pointer (some ⟨R, 0, none⟩), .int .i64 4]) gf_26 (args_cons e424 (args_cons rfl args_nil)) rfl (pick_c (p + 1) 4 (by omega) _ R bs _ _ _ (ks2_R hS) (by omega) (SlLt.low1 hs hb421 hlo) (by first | exact hb | exact fun b h => hb b (List.mem_of_mem_take h)) (by first | omega | (rw [List.length_take]; omega))) ?_
   rintro _ w430 ⟨k425, rfl, hk426, hk427, kR428, hg429⟩
   have hb431 := grown_trans hb421 hg429
   exact wpo_nil ⟨B231, k237, x245, B248, k425, x262, B265, (grown_trans hi418 hg429), e419, e420, fun hn => not_open ((ready_of 2 hbef rfl).symm.trans hn), fun h => let ⟨y432, y433, y434, y435, y436, y437⟩ := c_0 h; ⟨y432, y433, (y434).gn hg429, y435, y436, y437⟩, c_1, fun h => let ⟨y438, y439, y440, y441⟩ := c_2 h; ⟨y438, y439, y440, fun h => not_open h⟩, c_3, c_4, fun h => let ⟨y442, y443, y444, y445, y446, y447⟩ := c_5 h; ⟨y442, y443, (y444).gn hg429, y445, y446, y447⟩, c_6, fun _ => ⟨rfl, hk426, hk427, kR428⟩, fun h => undone 8 hS hcl rfl h, fun h => undone 9 hS hcl rfl h, fun h => undone 10 hS hcl rfl h, fun h => let ⟨y448, y449, y450, y451, y452, y453⟩ := c_11 h; ⟨y448, y449, (y450).gn hg429, y451, y452, y453⟩, pr_B231_B248, pr_B231_B265, pr_B248_B265⟩
  refine preL_cons (fun S F w454 hS hbef hcl hI => ?_) ?_
  ·
   obtain ⟨B231, k237, x245, B248, k254, x262, B265, hi455, e456, e457, c_old_R, c_0, c_1, c_2, c_3, c_4, c_5, c_6, c_7, c_8, c_9, c_10, c_11, pr_B231_B248, pr_B231_B265, pr_B248_B265⟩ := hI
   have hb458 := grown_trans hb104 hi455
   obtain e459 := c_1 (ready_of 1 hbef rfl)
   obtain ⟨e460, hk238, hk239, ks2_R⟩ := c_2 (ready_of 2 hbef rfl)
   obtain ⟨e461, hlB248, kb_B248, lt_R_B248, lt_B101_B248, hk_B248⟩ := c_5 (ready_of 5 hbef rfl)
   obtain e462 := c_6 (ready_of 6 hbef rfl)
   obtain ⟨e463, hk255, hk256, ks7_R⟩ := c_7 (ready_of 7 hbef rfl)
   refine wpo_indexAddr (o' := (k254).toNat * 1) es_29 e461 e463 (by omega) (by omega) (by omega) rfl ?_
   exact wpo_nil ⟨B231, k237, x245, B248, k254, x262, B265, hi455, e456, e457, fun hn => not_open ((ready_of 2 hbef rfl).symm.trans hn), c_0, c_1, c_2, c_3, c_4, c_5, c_6, c_7, fun _ => rfl, fun h => undone 9 hS hcl rfl h, fun h => undone 10 hS hcl rfl h, c_11, pr_B231_B248, pr_B231_B265, pr_B248_B265⟩
  refine preL_cons (fun S F w464 hS hbef hcl hI => ?_) ?_
  ·
   obtain ⟨B231, k237, x245, B248, k254, x262, B265, hi465, e466, e467, c_old_R, c_0, c_1, c_2, c_3, c_4, c_5, c_6, c_7, c_8, c_9, c_10, c_11, pr_B231_B248, pr_B231_B265, pr_B248_B265⟩ := hI
   have hb468 := grown_trans hb104 hi465
   obtain e469 := c_1 (ready_of 1 hbef rfl)
   obtain ⟨e470, hk238, hk239, ks2_R⟩ := c_2 (ready_of 2 hbef rfl)
   obtain ⟨e471, hlB248, kb_B248, lt_R_B248, lt_B101_B248, hk_B248⟩ := c_5 (ready_of 5 hbef rfl)
   obtain e472 := c_6 (ready_of 6 hbef rfl)
   obtain ⟨e473, hk255, hk256, ks7_R⟩ := c_7 (ready_of 7 hbef rfl)
   obtain e474 := c_8 (ready_of 8 hbef rfl)
   obtain ⟨x475, hx476⟩ := get_lt (l := ([0, 0, 3, 1] : List Int)) (i := (k254).toNat) (show (k254).toNat < 4 by omega)
   have hm477 := List.mem_of_getElem? hx476
   simp only [List.mem_cons, List.not_mem_nil, or_false] at hm477
   refine wpo_load1 (v := .int .i64 x475) ot_3 e474 ((rows_range wide_int kb_B248 hx476) 0 _ rfl) rfl ?_
   exact wpo_nil ⟨B231, k237, x245, B248, k254, x475, B265, hi465, e466, e467, fun hn => not_open ((ready_of 2 hbef rfl).symm.trans hn), c_0, c_1, c_2, c_3, c_4, c_5, c_6, c_7, c_8, fun _ => ⟨rfl, hx476, hm477⟩, fun h => undone 10 hS hcl rfl h, c_11, pr_B231_B248, pr_B231_B265, pr_B248_B265⟩
  refine preL_cons (fun S F w478 hS hbef hcl hI => ?_) ?_
  ·
   obtain ⟨B231, k237, x245, B248, k254, x262, B265, hi479, e480, e481, c_old_R, c_0, c_1, c_2, c_3, c_4, c_5, c_6, c_7, c_8, c_9, c_10, c_11, pr_B231_B248, pr_B231_B265, pr_B248_B265⟩ := hI
   have hb482 := grown_trans hb104 hi479
   obtain ⟨e483, hlB231, kb_B231, lt_R_B231, lt_B101_B231, hk_B231⟩ := c_0 (ready_of 0 hbef rfl)
   obtain e484 := c_1 (ready_of 1 hbef rfl)
   obtain ⟨e485, hk238, hk239, ks2_R⟩ := c_2 (ready_of 2 hbef rfl)
   obtain e486 := c_3 (ready_of 3 hbef rfl)
   obtain ⟨e487, hx246, hm247⟩ := c_4 (ready_of 4 hbef rfl)
   obtain ⟨e488, hlB248, kb_B248, lt_R_B248, lt_B101_B248, hk_B248⟩ := c_5 (ready_of 5 hbef rfl)
   obtain e489 := c_6 (ready_of 6 hbef rfl)
   obtain ⟨e490, hk255, hk256, ks7_R⟩ := c_7 (ready_of 7 hbef rfl)
   obtain e491 := c_8 (ready_of 8 hbef rfl)
   obtain ⟨e492, hx263, hm264⟩ := c_9 (ready_of 9 hbef rfl)
   have ne_B231_B248 := pr_B231_B248 (ready_of 0 hbef rfl) (ready_of 5 hbef rfl)
   refine wpo_build (ps := [(0, .int .i64 x245), (1, .int .i64 x262)]) (v := .agg #[.int .i64 x245, .int .i64 x262]) (parts_cons e487 (parts_cons e492 parts_nil)) (by kernel_rfl) rfl ?_
   exact wpo_nil ⟨B231, k237, x245, B248, k254, x262, B265, hi479, e480, e481, fun hn => not_open ((ready_of 2 hbef rfl).symm.trans hn), c_0, c_1, c_2, c_3, c_4, c_5, c_6, c_7, c_8, c_9, fun _ => rfl, c_11, pr_B231_B248, pr_B231_B265, pr_B248_B265⟩
  refine preL_cons (fun S F w493 hS hbef hcl hI => ?_) ?_
  ·
   obtain ⟨B231, k237, x245, B248, k254, x262, B265, hi494, e495, e496, c_old_R, c_0, c_1, c_2, c_3, c_4, c_5, c_6, c_7, c_8, c_9, c_10, c_11, pr_B231_B248, pr_B231_B265, pr_B248_B265⟩ := hI
   have hb497 := grown_trans hb104 hi494
   refine wpo_alloc (cs := #[.int .i64 0, .int .i64 0]) zt_27 rfl rfl ?_
   intro B498 w499 hN500
   have hlB498 := hN_ge hN500 hb497
   have k501 := (hN103.blk.gn hi494)
   have lt_B101_B498 := hN_gtl hN500 (k501).lt
   have hb502 := low0 hb497 hN500.grw
   exact wpo_nil ⟨B231, k237, x245, B248, k254, x262, B498, (low0 hi494 hN500.grw), e495, e496, fun h => (c_old_R h).grown0 hN500.grw, fun h => let ⟨y503, y504, y505, y506, y507, y508⟩ := c_0 h; ⟨y503, y504, (y505).grown0 hN500.grw, y506, y507, y508⟩, c_1, fun h => let ⟨y509, y510, y511, y512⟩ := c_2 h; ⟨y509, y510, y511, fun hn => (y512 hn).grown0 hN500.grw⟩, c_3, c_4, fun h => let ⟨y513, y514, y515, y516, y517, y518⟩ := c_5 h; ⟨y513, y514, (y515).grown0 hN500.grw, y516, y517, y518⟩, c_6, fun h => let ⟨y519, y520, y521, y522⟩ := c_7 h; ⟨y519, y520, y521, (y522).grown0 hN500.grw⟩, c_8, c_9, c_10, fun _ => ⟨rfl, hlB498, hN500.blk, (by omega), lt_B101_B498, (Nat.le_trans hi494.size (Nat.le_of_eq hN500.eq.symm))⟩, pr_B231_B248, fun h _ => let ⟨y523, y524, y525, y526, y527, y528⟩ := c_0 h; Nat.ne_of_lt (Nat.lt_of_lt_of_le ((y525).lt) (Nat.le_of_eq hN500.eq.symm)), fun h _ => let ⟨y529, y530, y531, y532, y533, y534⟩ := c_5 h; Nat.ne_of_lt (Nat.lt_of_lt_of_le ((y531).lt) (Nat.le_of_eq hN500.eq.symm))⟩
  exact preL_nil
 ·
  intro S F w535 hall hI
  obtain ⟨B231, k237, x245, B248, k254, x262, B265, hi536, e537, e538, c_old_R, c_0, c_1, c_2, c_3, c_4, c_5, c_6, c_7, c_8, c_9, c_10, c_11, pr_B231_B248, pr_B231_B265, pr_B248_B265⟩ := hI
  have hb539 := grown_trans hb104 hi536
  obtain ⟨e540, hlB231, kb_B231, lt_R_B231, lt_B101_B231, hk_B231⟩ := c_0 (hall 0 (by decide))
  obtain e541 := c_1 (hall 1 (by decide))
  obtain ⟨e542, hk238, hk239, ks2_R⟩ := c_2 (hall 2 (by decide))
  obtain e543 := c_3 (hall 3 (by decide))
  obtain ⟨e544, hx246, hm247⟩ := c_4 (hall 4 (by decide))
  obtain ⟨e545, hlB248, kb_B248, lt_R_B248, lt_B101_B248, hk_B248⟩ := c_5 (hall 5 (by decide))
  obtain e546 := c_6 (hall 6 (by decide))
  obtain ⟨e547, hk255, hk256, ks7_R⟩ := c_7 (hall 7 (by decide))
  obtain e548 := c_8 (hall 8 (by decide))
  obtain ⟨e549, hx263, hm264⟩ := c_9 (hall 9 (by decide))
  obtain e550 := c_10 (hall 10 (by decide))
  obtain ⟨e551, hlB265, kb_B265, lt_R_B265, lt_B101_B265, hk_B265⟩ := c_11 (hall 11 (by decide))
  have ne_B231_B248 := pr_B231_B248 (hall 0 (by decide)) (hall 5 (by decide))
  have ne_B231_B265 := pr_B231_B265 (hall 0 (by decide)) (hall 11 (by decide))
  have ne_B248_B265 := pr_B248_B265 (hall 5 (by decide)) (hall 11 (by decide))
  refine wpo_storen (vs := [.int .i64 x245, .int .i64 x262]) (cs' := #[.int .i64 x245, .int .i64 x262]) rt_27 e551 e550 rfl (by simp [Value.oneCell']) kb_B265 (Nat.le_of_ble_eq_true rfl) rfl ?_
  intro w552 hS553
  have hb554 := low1 hb539 hS553.grw (by omega)
  refine wpo_nil ?_
  refine thn_n ?_
  refine wpf_seq ?_
  refine wpf_seq_region ?_
  refine wpo_move (v := .pointer (some ⟨R, 0, none⟩)) e537 rfl ?_
  have k555 := (ks7_R.gn hS553.grw)
  refine wpo_call (vs := [.pointer (some ⟨R, 0, none⟩), .int .i64 60]) gf_26 (args_cons rfl (args_cons rfl args_nil)) rfl (pick_c (p + 1 + 1) 60 (by omega) _ R bs _ _ _ k555 (by omega) (SlLt.low1 hs hb554 hlo) (by first | exact hb | exact fun b h => hb b (List.mem_of_mem_take h)) (by first | omega | (rw [List.length_take]; omega))) ?_
  rintro _ w561 ⟨k556, rfl, hk557, hk558, kR559, hg560⟩
  have hb562 := grown_trans hb554 hg560
  refine wpo_eql (q := decide (k556 = 0)) rfl rfl rfl rfl ?_
  refine wpo_nil ?_
  refine wpf_cond rfl (fun h563 => ?_) (fun h563 => ?_)
  ·
   have h564 := of_decide_eq_true h563
   refine wpf_region ?_
   refine wpo_buildSlice (ps := [(0, .int .i64 (-1)), (1, .int .i64 4)]) (e := 3) (cs := (([(-1), 4] : List Int).flatMap icell).toArray) (parts_cons rfl (parts_cons rfl parts_nil)) (fun _ => by kernel_rfl) rfl ?_
   intro B565 w566 hN567
   have hlB565 := hN_ge hN567 hb562
   have k568 := (((hN103.blk.gn hi536).gn hS553.grw).gn hg560)
   have lt_B101_B565 := hN_gtl hN567 (k568).lt
   have k569 := ((kb_B231.gn hS553.grw).gn hg560)
   have lt_B231_B565 := hN_gtl hN567 (k569).lt
   have k570 := ((kb_B248.gn hS553.grw).gn hg560)
   have lt_B248_B565 := hN_gtl hN567 (k570).lt
   have lt_R_B565 := hN_gtl hN567 (kR559).lt
   have k571 := (hS553.blk.gn hg560)
   have lt_B265_B565 := hN_gtl hN567 (k571).lt
   have hb572 := low0 hb562 hN567.grw
   refine wpo_move (v := .pointer (some ⟨R, 0, none⟩)) e537 rfl ?_
   have k573 := (kR559.grown0 hN567.grw)
   refine wpo_call (vs := [.pointer (some ⟨R, 0, none⟩), .int .i64 2]) gf_26 (args_cons rfl (args_cons rfl args_nil)) rfl (pick_c (p + 1 + 1 + 1) 2 (by omega) _ R bs _ _ _ k573 (by omega) (SlLt.low1 hs hb572 hlo) (by first | exact hb | exact fun b h => hb b (List.mem_of_mem_take h)) (by first | omega | (rw [List.length_take]; omega))) ?_
   rintro _ w579 ⟨k574, rfl, hk575, hk576, kR577, hg578⟩
   have hb580 := grown_trans hb572 hg578
   refine wpo_indexAddr (o' := (k574).toNat * 1) es_29 rfl rfl (by omega) (by omega) (by omega) rfl ?_
   have k581 := (hN567.blk.gn hg578)
   obtain ⟨x582, hx583⟩ := get_lt (l := ([(-1), 4] : List Int)) (i := (k574).toNat) (show (k574).toNat < 2 by omega)
   have hm584 := List.mem_of_getElem? hx583
   simp only [List.mem_cons, List.not_mem_nil, or_false] at hm584
   refine wpo_load1 (v := .int .i64 x582) ot_3 rfl ((rows_range wide_int k581 hx583) 0 _ rfl) rfl ?_
   refine wpo_fieldAddr (o' := 0) fo_27_0 e551 rfl rfl ?_
   have k585 := ((k571.grown0 hN567.grw).gn hg578)
   refine wpo_store1 (v := .int .i64 x582) (cs' := #[.int .i64 x582, .int .i64 x262]) ot_3 rfl rfl rfl k585 (Nat.le_of_ble_eq_true rfl) rfl ?_
   intro w586 hS587
   have hb588 := low1 hb580 hS587.grw (by omega)
   refine wpo_nil ?_
   refine thn_n ?_
   refine wpf_seq_region ?_
   refine wpo_loadn (vs := [.int .i64 x582, .int .i64 x262]) rt_27 e551 rfl (hS587.blk.rangeL 0 2 rfl) rfl ?_
   have k589 := (((k568.grown0 hN567.grw).gn hg578).gn hS587.grw)
   refine wpo_storen (vs := [.int .i64 x582, .int .i64 x262]) (cs' := #[.int .i64 x582, .int .i64 x262]) rt_27 e538 rfl rfl (by simp [Value.oneCell']) k589 (Nat.le_of_ble_eq_true rfl) rfl ?_
   intro w590 hS591
   have hb592 := low1 hb588 hS591.grw (by omega)
   refine wpo_nil ?_
   refine wpf_ret ?_
   have k593 := ((kR577.gn hS587.grw).gn hS591.grw)
   refine ⟨.agg #[.int .i64 x582, .int .i64 x262], resC rfl (resCell_mk (vs := [.int .i64 x582, .int .i64 x262]) rt_27 e538 rfl (hS591.blk.rangeL 0 2 rfl)), ⟨x582, x262⟩, (p + 1 + 1 + 1 + 1), rfl, show (-1 : Int) ≤ x582 by omega, show x582 ≤ (4 : Int) by omega, show (0 : Int) ≤ x262 by omega, show x262 ≤ (3 : Int) by omega, by omega, by omega, k593, hb592⟩
  ·
   have h594 := of_decide_eq_false h563
   refine wpf_skip ?_
   refine thn_n ?_
   refine wpf_seq_region ?_
   have k595 := (hS553.blk.gn hg560)
   refine wpo_loadn (vs := [.int .i64 x245, .int .i64 x262]) rt_27 e551 rfl (k595.rangeL 0 2 rfl) rfl ?_
   have k596 := (((hN103.blk.gn hi536).gn hS553.grw).gn hg560)
   refine wpo_storen (vs := [.int .i64 x245, .int .i64 x262]) (cs' := #[.int .i64 x245, .int .i64 x262]) rt_27 e538 rfl rfl (by simp [Value.oneCell']) k596 (Nat.le_of_ble_eq_true rfl) rfl ?_
   intro w597 hS598
   have hb599 := low1 hb562 hS598.grw (by omega)
   refine wpo_nil ?_
   refine wpf_ret ?_
   have k600 := (kR559.gn hS598.grw)
   refine ⟨.agg #[.int .i64 x245, .int .i64 x262], resC rfl (resCell_mk (vs := [.int .i64 x245, .int .i64 x262]) rt_27 e538 rfl (hS598.blk.rangeL 0 2 rfl)), ⟨x245, x262⟩, (p + 1 + 1 + 1), rfl, show (-1 : Int) ≤ x245 by omega, show x245 ≤ (4 : Int) by omega, show (0 : Int) ≤ x262 by omega, show x262 ≤ (3 : Int) by omega, by omega, by omega, k600, hb599⟩

end Go.Proofs.YtemimomfjapgiaaDoor
