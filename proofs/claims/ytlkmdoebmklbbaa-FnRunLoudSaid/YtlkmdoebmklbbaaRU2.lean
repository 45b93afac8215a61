/- Walks, printed by a program of mine (gen.py) out of the functions. -/
import Derived.Test.YtlkmdoebmklbbaaRU1
namespace Go.Proofs.Ytlkmdoebmklbbaa
open Go.RowKit Go.Dw
set_option maxRecDepth 100000
set_option maxHeartbeats 4000000
set_option linter.unusedSimpArgs false
set_option linter.unusedVariables false
theorem l71Label_c (p : Int) (hp : 0 ≤ p ∧ p ≤ 1000000000000) (lo R : Nat) (bs : List Int) (a : Option Addr) (c : Nat) (w : World) (hR : Blk w R 121 #[.slice a bs.length c, .int .i64 p]) (hlo : lo ≤ R) (hs : SlLt lo w a 1 (bs.map bcell)) (hb : ∀ b ∈ bs, 0 ≤ b ∧ b ≤ 255) (hn : bs.length ≤ 1048576) : CallsR Try.prog 65 #[.pointer (some ⟨R, 0, none⟩)] w (fun v w' => ∃ (l : Lab) (p' : Int), v = .agg #[.int .i64 l.s, .int .i64 l.v] ∧ -1 ≤ l.s ∧ l.s ≤ 4 ∧ 0 ≤ l.v ∧ l.v ≤ 3 ∧ p ≤ p' ∧ p' ≤ p + 4 ∧ Blk w' R 121 #[.slice a bs.length c, .int .i64 p'] ∧ w.grownBy w' (some R)) := by
 refine calls_of_wpf (n := 25) Try.func65 rfl Try.ntmps65 rfl ?_
 have hb0 := World.grownBy.refl w (some R)
 have hRlt := hR.lt
 refine wpf_seq_region ?_
 refine wpo_alloc (cs := #[.int .i64 0, .int .i64 0]) zt_40 rfl rfl ?_
 intro B101 w102 hN103
 have hlB101 := hN_ge hN103 hb0
 have lt_R_B101 := hN_gtl hN103 (hR).lt
 have hb104 := low0 hb0 hN103.grw
 refine wpo_nil ?_
 refine wpf_seq ?_
 have k271 := (hR.grown0 hN103.grw)
 refine wpf_drawI (m := 12) [[], [], [1], [0, 1, 2], [0, 1, 2, 3], [], [], [1, 2, 6], [1, 2, 5, 6, 7], [1, 2, 5, 6, 7, 8], [0, 1, 2, 3, 4, 5, 6, 7, 8, 9], [], [0, 1, 2, 3, 4, 5, 6, 7, 8, 9, 10, 11]] (fun S F w' => ∃ (B231 : Nat) (k237 : Int) (x245 : Int) (B248 : Nat) (k254 : Int) (x262 : Int) (B265 : Nat), w102.grownBy w' (some R) ∧ F 0 = .pointer (some ⟨R, 0, none⟩) ∧ F 2 = .pointer (some ⟨B101, 0, none⟩) ∧ (S 2 = false → Blk w' R 121 #[.slice a bs.length c, .int .i64 p]) ∧ (S 0 = true → F 4 = .slice (some ⟨B231, 0, none⟩) 5 5 ∧ w.heap.size ≤ B231 ∧ Blk w' B231 3 (([0, 0, 1, 2, 3] : List Int).flatMap icell).toArray ∧ R < B231 ∧ B101 < B231 ∧ w102.heap.size ≤ B231) ∧ (S 1 = true → F 5 = .pointer (some ⟨R, 0, none⟩)) ∧ (S 2 = true → F 6 = .int .i64 k237 ∧ 0 ≤ k237 ∧ (k237 < 5 ∨ k237 = 0) ∧ (S 7 = false → Blk w' R 121 #[.slice a bs.length c, .int .i64 (p + 1)])) ∧ (S 3 = true → F 7 = .pointer (some ⟨B231, (k237).toNat * 1, none⟩)) ∧ (S 4 = true → F 8 = .int .i64 x245 ∧ ([0, 0, 1, 2, 3] : List Int)[(k237).toNat]? = some x245 ∧ (x245 = 0 ∨ x245 = 0 ∨ x245 = 1 ∨ x245 = 2 ∨ x245 = 3)) ∧ (S 5 = true → F 9 = .slice (some ⟨B248, 0, none⟩) 4 4 ∧ w.heap.size ≤ B248 ∧ Blk w' B248 3 (([0, 0, 3, 1] : List Int).flatMap icell).toArray ∧ R < B248 ∧ B101 < B248 ∧ w102.heap.size ≤ B248) ∧ (S 6 = true → F 10 = .pointer (some ⟨R, 0, none⟩)) ∧ (S 7 = true → F 11 = .int .i64 k254 ∧ 0 ≤ k254 ∧ (k254 < 4 ∨ k254 = 0) ∧ Blk w' R 121 #[.slice a bs.length c, .int .i64 (p + 1 + 1)]) ∧ (S 8 = true → F 12 = .pointer (some ⟨B248, (k254).toNat * 1, none⟩)) ∧ (S 9 = true → F 13 = .int .i64 x262 ∧ ([0, 0, 3, 1] : List Int)[(k254).toNat]? = some x262 ∧ (x262 = 0 ∨ x262 = 0 ∨ x262 = 3 ∨ x262 = 1)) ∧ (S 10 = true → F 14 = .agg #[.int .i64 x245, .int .i64 x262]) ∧ (S 11 = true → F 3 = .pointer (some ⟨B265, 0, none⟩) ∧ w.heap.size ≤ B265 ∧ Blk w' B265 40 #[.int .i64 0, .int .i64 0] ∧ R < B265 ∧ B101 < B265 ∧ w102.heap.size ≤ B265) ∧ (S 0 = true → S 5 = true → B231 ≠ B248) ∧ (S 0 = true → S 11 = true → B231 ≠ B265) ∧ (S 5 = true → S 11 = true → B248 ≠ B265)) mixed_ (by kernel_rfl) ⟨0, 0, 0, 0, 0, 0, 0, grown_drew _, rfl, rfl, fun _ => (k271).grown0 (grown_drew _), fun h => not_begun h, fun h => not_begun h, fun h => not_begun h, fun h => not_begun h, fun h => not_begun h, fun h => not_begun h, fun h => not_begun h, fun h => not_begun h, fun h => not_begun h, fun h => not_begun h, fun h => not_begun h, fun h => not_begun h, fun h => not_begun h, fun h => not_begun h, fun h => not_begun h⟩ ?_ ?_
 ·
  refine preL_cons (fun S F w272 hS hbef hcl hI => ?_) ?_
  ·
   obtain ⟨B231, k237, x245, B248, k254, x262, B265, hi273, e274, e275, c_old_R, c_0, c_1, c_2, c_3, c_4, c_5, c_6, c_7, c_8, c_9, c_10, c_11, pr_B231_B248, pr_B231_B265, pr_B248_B265⟩ := hI
   have hb276 := grown_trans hb104 hi273
   refine wpo_buildSlice (ps := [(0, .int .i64 0), (1, .int .i64 0), (2, .int .i64 1), (3, .int .i64 2), (4, .int .i64 3)]) (e := 3) (cs := (([0, 0, 1, 2, 3] : List Int).flatMap icell).toArray) (parts_cons rfl (parts_cons rfl (parts_cons rfl (parts_cons rfl (parts_cons rfl parts_nil))))) (fun _ => by kernel_rfl) rfl ?_
   intro B277 w278 hN279
   have hlB277 := hN_ge hN279 hb276
   have k280 := (hN103.blk.grown hi273 (some_ne (by omega)))
   have lt_B101_B277 := hN_gtl hN279 (k280).lt
   have hb281 := low0 hb276 hN279.grw
   exact wpo_nil ⟨B277, k237, x245, B248, k254, x262, B265, (low0 hi273 hN279.grw), e274, e275, fun h => (c_old_R h).grown0 hN279.grw, fun _ => ⟨rfl, hlB277, hN279.blk, (by omega), lt_B101_B277, (Nat.le_trans hi273.size (Nat.le_of_eq hN279.eq.symm))⟩, c_1, fun h => let ⟨y282, y283, y284, y285⟩ := c_2 h; ⟨y282, y283, y284, fun hn => (y285 hn).grown0 hN279.grw⟩, fun h => undone 3 hS hcl rfl h, fun h => undone 4 hS hcl rfl h, fun h => let ⟨y286, y287, y288, y289, y290, y291⟩ := c_5 h; ⟨y286, y287, (y288).grown0 hN279.grw, y289, y290, y291⟩, c_6, fun h => let ⟨y292, y293, y294, y295⟩ := c_7 h; ⟨y292, y293, y294, (y295).grown0 hN279.grw⟩, c_8, c_9, fun h => undone 10 hS hcl rfl h, fun h => let ⟨y296, y297, y298, y299, y300, y301⟩ := c_11 h; ⟨y296, y297, (y298).grown0 hN279.grw, y299, y300, y301⟩, fun _ h => let ⟨y302, y303, y304, y305, y306, y307⟩ := c_5 h; Nat.ne_of_gt (Nat.lt_of_lt_of_le (Blk.lt y304) (Nat.le_of_eq hN279.eq.symm)), fun _ h => let ⟨y308, y309, y310, y311, y312, y313⟩ := c_11 h; Nat.ne_of_gt (Nat.lt_of_lt_of_le (Blk.lt y310) (Nat.le_of_eq hN279.eq.symm)), pr_B248_B265⟩
  refine preL_cons (fun S F w314 hS hbef hcl hI => ?_) ?_
  ·
   obtain ⟨B231, k237, x245, B248, k254, x262, B265, hi315, e316, e317, c_old_R, c_0, c_1, c_2, c_3, c_4, c_5, c_6, c_7, c_8, c_9, c_10, c_11, pr_B231_B248, pr_B231_B265, pr_B248_B265⟩ := hI
   have hb318 := grown_trans hb104 hi315
   refine wpo_move (v := .pointer (some ⟨R, 0, none⟩)) e316 rfl ?_
   exact wpo_nil ⟨B231, k237, x245, B248, k254, x262, B265, hi315, e316, e317, fun h => c_old_R h, c_0, fun _ => rfl, fun h => undone 2 hS hcl rfl h, fun h => undone 3 hS hcl rfl h, fun h => undone 4 hS hcl rfl h, c_5, c_6, fun h => undone 7 hS hcl rfl h, fun h => undone 8 hS hcl rfl h, fun h => undone 9 hS hcl rfl h, fun h => undone 10 hS hcl rfl h, c_11, pr_B231_B248, pr_B231_B265, pr_B248_B265⟩
  refine preL_cons (fun S F w319 hS hbef hcl hI => ?_) ?_
  ·
   obtain ⟨B231, k237, x245, B248, k254, x262, B265, hi320, e321, e322, c_old_R, c_0, c_1, c_2, c_3, c_4, c_5, c_6, c_7, c_8, c_9, c_10, c_11, pr_B231_B248, pr_B231_B265, pr_B248_B265⟩ := hI
   have hb323 := grown_trans hb104 hi320
   obtain e324 := c_1 (ready_of 1 hbef rfl)
   refine wpo_call (vs := [.pointer (some ⟨R, 0, none⟩), .int .i64 5]) gf_60 (args_cons e324 (args_cons rfl args_nil)) rfl (pick_c p 5 (by omega) _ R bs _ _ _ (c_old_R hS) (by omega) (SlLt.low1 hs hb323 hlo) (by first | exact hb | exact fun b h => hb b (List.mem_of_mem_take h)) (by first | omega | (rw [List.length_take]; omega))) ?_
   rintro _ w330 ⟨k325, rfl, hk326, hk327, kR328, hg329⟩
   have hb331 := grown_trans hb323 hg329
   exact wpo_nil ⟨B231, k325, x245, B248, k254, x262, B265, (grown_trans hi320 hg329), e321, e322, fun h => not_open h, fun h => let ⟨y332, y333, y334, y335, y336, y337⟩ := c_0 h; ⟨y332, y333, (y334).grown hg329 (some_ne (by omega)), y335, y336, y337⟩, c_1, fun _ => ⟨rfl, hk326, hk327, fun _ => kR328⟩, fun h => undone 3 hS hcl rfl h, fun h => undone 4 hS hcl rfl h, fun h => let ⟨y338, y339, y340, y341, y342, y343⟩ := c_5 h; ⟨y338, y339, (y340).grown hg329 (some_ne (by omega)), y341, y342, y343⟩, c_6, fun h => undone 7 hS hcl rfl h, fun h => undone 8 hS hcl rfl h, fun h => undone 9 hS hcl rfl h, fun h => undone 10 hS hcl rfl h, fun h => let ⟨y344, y345, y346, y347, y348, y349⟩ := c_11 h; ⟨y344, y345, (y346).grown hg329 (some_ne (by omega)), y347, y348, y349⟩, pr_B231_B248, pr_B231_B265, pr_B248_B265⟩
  refine preL_cons (fun S F w350 hS hbef hcl hI => ?_) ?_
  ·
   obtain ⟨B231, k237, x245, B248, k254, x262, B265, hi351, e352, e353, c_old_R, c_0, c_1, c_2, c_3, c_4, c_5, c_6, c_7, c_8, c_9, c_10, c_11, pr_B231_B248, pr_B231_B265, pr_B248_B265⟩ := hI
   have hb354 := grown_trans hb104 hi351
   obtain ⟨e355, hlB231, kb_B231, lt_R_B231, lt_B101_B231, hk_B231⟩ := c_0 (ready_of 0 hbef rfl)
   obtain e356 := c_1 (ready_of 1 hbef rfl)
   obtain ⟨e357, hk238, hk239, ks2_R⟩ := c_2 (ready_of 2 hbef rfl)
   refine wpo_indexAddr (o' := (k237).toNat * 1) es_43 e355 e357 (by omega) (by omega) (by omega) rfl ?_
   exact wpo_nil ⟨B231, k237, x245, B248, k254, x262, B265, hi351, e352, e353, fun hn => not_open ((ready_of 2 hbef rfl).symm.trans hn), c_0, c_1, c_2, fun _ => rfl, fun h => undone 4 hS hcl rfl h, c_5, c_6, c_7, c_8, c_9, fun h => undone 10 hS hcl rfl h, c_11, pr_B231_B248, pr_B231_B265, pr_B248_B265⟩
  refine preL_cons (fun S F w358 hS hbef hcl hI => ?_) ?_
  ·
   obtain ⟨B231, k237, x245, B248, k254, x262, B265, hi359, e360, e361, c_old_R, c_0, c_1, c_2, c_3, c_4, c_5, c_6, c_7, c_8, c_9, c_10, c_11, pr_B231_B248, pr_B231_B265, pr_B248_B265⟩ := hI
   have hb362 := grown_trans hb104 hi359
   obtain ⟨e363, hlB231, kb_B231, lt_R_B231, lt_B101_B231, hk_B231⟩ := c_0 (ready_of 0 hbef rfl)
   obtain e364 := c_1 (ready_of 1 hbef rfl)
   obtain ⟨e365, hk238, hk239, ks2_R⟩ := c_2 (ready_of 2 hbef rfl)
   obtain e366 := c_3 (ready_of 3 hbef rfl)
   obtain ⟨x367, hx368⟩ := get_lt (l := ([0, 0, 1, 2, 3] : List Int)) (i := (k237).toNat) (show (k237).toNat < 5 by omega)
   have hm369 := List.mem_of_getElem? hx368
   simp only [List.mem_cons, List.not_mem_nil, or_false] at hm369
   refine wpo_load1 (v := .int .i64 x367) ot_3 e366 ((rows_range wide_int kb_B231 hx368) 0 _ rfl) rfl ?_
   exact wpo_nil ⟨B231, k237, x367, B248, k254, x262, B265, hi359, e360, e361, fun hn => not_open ((ready_of 2 hbef rfl).symm.trans hn), c_0, c_1, c_2, c_3, fun _ => ⟨rfl, hx368, hm369⟩, c_5, c_6, c_7, c_8, c_9, fun h => undone 10 hS hcl rfl h, c_11, pr_B231_B248, pr_B231_B265, pr_B248_B265⟩
  refine preL_cons (fun S F w370 hS hbef hcl hI => ?_) ?_
  ·
   obtain ⟨B231, k237, x245, B248, k254, x262, B265, hi371, e372, e373, c_old_R, c_0, c_1, c_2, c_3, c_4, c_5, c_6, c_7, c_8, c_9, c_10, c_11, pr_B231_B248, pr_B231_B265, pr_B248_B265⟩ := hI
   have hb374 := grown_trans hb104 hi371
   refine wpo_buildSlice (ps := [(0, .int .i64 0), (1, .int .i64 0), (2, .int .i64 3), (3, .int .i64 1)]) (e := 3) (cs := (([0, 0, 3, 1] : List Int).flatMap icell).toArray) (parts_cons rfl (parts_cons rfl (parts_cons rfl (parts_cons rfl parts_nil)))) (fun _ => by kernel_rfl) rfl ?_
   intro B375 w376 hN377
   have hlB375 := hN_ge hN377 hb374
   have k378 := (hN103.blk.grown hi371 (some_ne (by omega)))
   have lt_B101_B375 := hN_gtl hN377 (k378).lt
   have hb379 := low0 hb374 hN377.grw
   exact wpo_nil ⟨B231, k237, x245, B375, k254, x262, B265, (low0 hi371 hN377.grw), e372, e373, fun h => (c_old_R h).grown0 hN377.grw, fun h => let ⟨y380, y381, y382, y383, y384, y385⟩ := c_0 h; ⟨y380, y381, (y382).grown0 hN377.grw, y383, y384, y385⟩, c_1, fun h => let ⟨y386, y387, y388, y389⟩ := c_2 h; ⟨y386, y387, y388, fun hn => (y389 hn).grown0 hN377.grw⟩, c_3, c_4, fun _ => ⟨rfl, hlB375, hN377.blk, (by omega), lt_B101_B375, (Nat.le_trans hi371.size (Nat.le_of_eq hN377.eq.symm))⟩, c_6, fun h => let ⟨y390, y391, y392, y393⟩ := c_7 h; ⟨y390, y391, y392, (y393).grown0 hN377.grw⟩, fun h => undone 8 hS hcl rfl h, fun h => undone 9 hS hcl rfl h, fun h => undone 10 hS hcl rfl h, fun h => let ⟨y394, y395, y396, y397, y398, y399⟩ := c_11 h; ⟨y394, y395, (y396).grown0 hN377.grw, y397, y398, y399⟩, fun h _ => let ⟨y400, y401, y402, y403, y404, y405⟩ := c_0 h; Nat.ne_of_lt (Nat.lt_of_lt_of_le (Blk.lt y402) (Nat.le_of_eq hN377.eq.symm)), pr_B231_B265, fun _ h => let ⟨y406, y407, y408, y409, y410, y411⟩ := c_11 h; Nat.ne_of_gt (Nat.lt_of_lt_of_le (Blk.lt y408) (Nat.le_of_eq hN377.eq.symm))⟩
  refine preL_cons (fun S F w412 hS hbef hcl hI => ?_) ?_
  ·
   obtain ⟨B231, k237, x245, B248, k254, x262, B265, hi413, e414, e415, c_old_R, c_0, c_1, c_2, c_3, c_4, c_5, c_6, c_7, c_8, c_9, c_10, c_11, pr_B231_B248, pr_B231_B265, pr_B248_B265⟩ := hI
   have hb416 := grown_trans hb104 hi413
   refine wpo_move (v := .pointer (some ⟨R, 0, none⟩)) e414 rfl ?_
   exact wpo_nil ⟨B231, k237, x245, B248, k254, x262, B265, hi413, e414, e415, fun h => c_old_R h, c_0, c_1, c_2, c_3, c_4, c_5, fun _ => rfl, fun h => undone 7 hS hcl rfl h, fun h => undone 8 hS hcl rfl h, fun h => undone 9 hS hcl rfl h, fun h => undone 10 hS hcl rfl h, c_11, pr_B231_B248, pr_B231_B265, pr_B248_B265⟩
  refine preL_cons (fun S F w417 hS hbef hcl hI => ?_) ?_
  ·
   obtain ⟨B231, k237, x245, B248, k254, x262, B265, hi418, e419, e420, c_old_R, c_0, c_1, c_2, c_3, c_4, c_5, c_6, c_7, c_8, c_9, c_10, c_11, pr_B231_B248, pr_B231_B265, pr_B248_B265⟩ := hI
   have hb421 := grown_trans hb104 hi418
   obtain e422 := c_1 (ready_of 1 hbef rfl)
   obtain ⟨e423, hk238, hk239, ks2_R⟩ := c_2 (ready_of 2 hbef rfl)
   obtain e424 := c_6 (ready_of 6 hbef rfl)
   refine wpo_call (vs := [.pointer (some ⟨R, 0, none⟩), .int .i64 4]) gf_60 (args_cons e424 (args_cons rfl args_nil)) rfl (pick_c (p + 1) 4 (by omega) _ R bs _ _ _ (ks2_R hS) (by omega) (SlLt.low1 hs hb421 hlo) (by first | exact hb | exact fun b h => hb b (List.mem_of_mem_take h)) (by first | omega | (rw [List.length_take]; omega))) ?_
   rintro _ w430 ⟨k425, rfl, hk426, hk427, kR428, hg429⟩
   have hb431 := grown_trans hb421 hg429
   exact wpo_nil ⟨B231, k237, x245, B248, k425, x262, B265, (grown_trans hi418 hg429), e419, e420, fun hn => not_open ((ready_of 2 hbef rfl).symm.trans hn), fun h => let ⟨y432, y433, y434, y435, y436, y437⟩ := c_0 h; ⟨y432, y433, (y434).grown hg429 (some_ne (by omega)), y435, y436, y437⟩, c_1, fun h => let ⟨y438, y439, y440, y441⟩ := c_2 h; ⟨y438, y439, y440, fun h => not_open h⟩, c_3, c_4, fun h => let ⟨y442, y443, y444, y445, y446, y447⟩ := c_5 h; ⟨y442, y443, (y444).grown hg429 (some_ne (by omega)), y445, y446, y447⟩, c_6, fun _ => ⟨rfl, hk426, hk427, kR428⟩, fun h => undone 8 hS hcl rfl h, fun h => undone 9 hS hcl rfl h, fun h => undone 10 hS hcl rfl h, fun h => let ⟨y448, y449, y450, y451, y452, y453⟩ := c_11 h; ⟨y448, y449, (y450).grown hg429 (some_ne (by omega)), y451, y452, y453⟩, pr_B231_B248, pr_B231_B265, pr_B248_B265⟩
  refine preL_cons (fun S F w454 hS hbef hcl hI => ?_) ?_
  ·
   obtain ⟨B231, k237, x245, B248, k254, x262, B265, hi455, e456, e457, c_old_R, c_0, c_1, c_2, c_3, c_4, c_5, c_6, c_7, c_8, c_9, c_10, c_11, pr_B231_B248, pr_B231_B265, pr_B248_B265⟩ := hI
   have hb458 := grown_trans hb104 hi455
   obtain e459 := c_1 (ready_of 1 hbef rfl)
   obtain ⟨e460, hk238, hk239, ks2_R⟩ := c_2 (ready_of 2 hbef rfl)
   obtain ⟨e461, hlB248, kb_B248, lt_R_B248, lt_B101_B248, hk_B248⟩ := c_5 (ready_of 5 hbef rfl)
   obtain e462 := c_6 (ready_of 6 hbef rfl)
   obtain ⟨e463, hk255, hk256, ks7_R⟩ := c_7 (ready_of 7 hbef rfl)
   refine wpo_indexAddr (o' := (k254).toNat * 1) es_43 e461 e463 (by omega) (by omega) (by omega) rfl ?_
   exact wpo_nil ⟨B231, k237, x245, B248, k254, x262, B265, hi455, e456, e457, fun hn => not_open ((ready_of 2 hbef rfl).symm.trans hn), c_0, c_1, c_2, c_3, c_4, c_5, c_6, c_7, fun _ => rfl, fun h => undone 9 hS hcl rfl h, fun h => undone 10 hS hcl rfl h, c_11, pr_B231_B248, pr_B231_B265, pr_B248_B265⟩
  refine preL_cons (fun S F w464 hS hbef hcl hI => ?_) ?_
  ·
   obtain ⟨B231, k237, x245, B248, k254, x262, B265, hi465, e466, e467, c_old_R, c_0, c_1, c_2, c_3, c_4, c_5, c_6, c_7, c_8, c_9, c_10, c_11, pr_B231_B248, pr_B231_B265, pr_B248_B265⟩ := hI
   have hb468 := grown_trans hb104 hi465
   obtain e469 := c_1 (ready_of 1 hbef rfl)
   obtain ⟨e470, hk238, hk239, ks2_R⟩ := c_2 (ready_of 2 hbef rfl)
   obtain ⟨e471, hlB248, kb_B248, lt_R_B248, lt_B101_B248, hk_B248⟩ := c_5 (ready_of 5 hbef rfl)
   obtain e472 := c_6 (ready_of 6 hbef rfl)
   obtain ⟨e473, hk255, hk256, ks7_R⟩ := c_7 (ready_of 7 hbef rfl)
   obtain e474 := c_8 (ready_of 8 hbef rfl)
   obtain ⟨x475, hx476⟩ := get_lt (l := ([0, 0, 3, 1] : List Int)) (i := (k254).toNat) (show (k254).toNat < 4 by omega)
   have hm477 := List.mem_of_getElem? hx476
   simp only [List.mem_cons, List.not_mem_nil, or_false] at hm477
   refine wpo_load1 (v := .int .i64 x475) ot_3 e474 ((rows_range wide_int kb_B248 hx476) 0 _ rfl) rfl ?_
   exact wpo_nil ⟨B231, k237, x245, B248, k254, x475, B265, hi465, e466, e467, fun hn => not_open ((ready_of 2 hbef rfl).symm.trans hn), c_0, c_1, c_2, c_3, c_4, c_5, c_6, c_7, c_8, fun _ => ⟨rfl, hx476, hm477⟩, fun h => undone 10 hS hcl rfl h, c_11, pr_B231_B248, pr_B231_B265, pr_B248_B265⟩
  refine preL_cons (fun S F w478 hS hbef hcl hI => ?_) ?_
  ·
   obtain ⟨B231, k237, x245, B248, k254, x262, B265, hi479, e480, e481, c_old_R, c_0, c_1, c_2, c_3, c_4, c_5, c_6, c_7, c_8, c_9, c_10, c_11, pr_B231_B248, pr_B231_B265, pr_B248_B265⟩ := hI
   have hb482 := grown_trans hb104 hi479
   obtain ⟨e483, hlB231, kb_B231, lt_R_B231, lt_B101_B231, hk_B231⟩ := c_0 (ready_of 0 hbef rfl)
   obtain e484 := c_1 (ready_of 1 hbef rfl)
   obtain ⟨e485, hk238, hk239, ks2_R⟩ := c_2 (ready_of 2 hbef rfl)
   obtain e486 := c_3 (ready_of 3 hbef rfl)
   obtain ⟨e487, hx246, hm247⟩ := c_4 (ready_of 4 hbef rfl)
   obtain ⟨e488, hlB248, kb_B248, lt_R_B248, lt_B101_B248, hk_B248⟩ := c_5 (ready_of 5 hbef rfl)
   obtain e489 := c_6 (ready_of 6 hbef rfl)
   obtain ⟨e490, hk255, hk256, ks7_R⟩ := c_7 (ready_of 7 hbef rfl)
   obtain e491 := c_8 (ready_of 8 hbef rfl)
   obtain ⟨e492, hx263, hm264⟩ := c_9 (ready_of 9 hbef rfl)
   have ne_B231_B248 := pr_B231_B248 (ready_of 0 hbef rfl) (ready_of 5 hbef rfl)
   refine wpo_build (ps := [(0, .int .i64 x245), (1, .int .i64 x262)]) (v := .agg #[.int .i64 x245, .int .i64 x262]) (parts_cons e487 (parts_cons e492 parts_nil)) (by kernel_rfl) rfl ?_
   exact wpo_nil ⟨B231, k237, x245, B248, k254, x262, B265, hi479, e480, e481, fun hn => not_open ((ready_of 2 hbef rfl).symm.trans hn), c_0, c_1, c_2, c_3, c_4, c_5, c_6, c_7, c_8, c_9, fun _ => rfl, c_11, pr_B231_B248, pr_B231_B265, pr_B248_B265⟩
  refine preL_cons (fun S F w493 hS hbef hcl hI => ?_) ?_
  ·
   obtain ⟨B231, k237, x245, B248, k254, x262, B265, hi494, e495, e496, c_old_R, c_0, c_1, c_2, c_3, c_4, c_5, c_6, c_7, c_8, c_9, c_10, c_11, pr_B231_B248, pr_B231_B265, pr_B248_B265⟩ := hI
   have hb497 := grown_trans hb104 hi494
   refine wpo_alloc (cs := #[.int .i64 0, .int .i64 0]) zt_40 rfl rfl ?_
   intro B498 w499 hN500
   have hlB498 := hN_ge hN500 hb497
   have k501 := (hN103.blk.grown hi494 (some_ne (by omega)))
   have lt_B101_B498 := hN_gtl hN500 (k501).lt
   have hb502 := low0 hb497 hN500.grw
   exact wpo_nil ⟨B231, k237, x245, B248, k254, x262, B498, (low0 hi494 hN500.grw), e495, e496, fun h => (c_old_R h).grown0 hN500.grw, fun h => let ⟨y503, y504, y505, y506, y507, y508⟩ := c_0 h; ⟨y503, y504, (y505).grown0 hN500.grw, y506, y507, y508⟩, c_1, fun h => let ⟨y509, y510, y511, y512⟩ := c_2 h; ⟨y509, y510, y511, fun hn => (y512 hn).grown0 hN500.grw⟩, c_3, c_4, fun h => let ⟨y513, y514, y515, y516, y517, y518⟩ := c_5 h; ⟨y513, y514, (y515).grown0 hN500.grw, y516, y517, y518⟩, c_6, fun h => let ⟨y519, y520, y521, y522⟩ := c_7 h; ⟨y519, y520, y521, (y522).grown0 hN500.grw⟩, c_8, c_9, c_10, fun _ => ⟨rfl, hlB498, hN500.blk, (by omega), lt_B101_B498, (Nat.le_trans hi494.size (Nat.le_of_eq hN500.eq.symm))⟩, pr_B231_B248, fun h _ => let ⟨y523, y524, y525, y526, y527, y528⟩ := c_0 h; Nat.ne_of_lt (Nat.lt_of_lt_of_le (Blk.lt y525) (Nat.le_of_eq hN500.eq.symm)), fun h _ => let ⟨y529, y530, y531, y532, y533, y534⟩ := c_5 h; Nat.ne_of_lt (Nat.lt_of_lt_of_le (Blk.lt y531) (Nat.le_of_eq hN500.eq.symm))⟩
  exact preL_nil
 ·
  intro S F w535 hall hI
  obtain ⟨B231, k237, x245, B248, k254, x262, B265, hi536, e537, e538, c_old_R, c_0, c_1, c_2, c_3, c_4, c_5, c_6, c_7, c_8, c_9, c_10, c_11, pr_B231_B248, pr_B231_B265, pr_B248_B265⟩ := hI
  have hb539 := grown_trans hb104 hi536
  obtain ⟨e540, hlB231, kb_B231, lt_R_B231, lt_B101_B231, hk_B231⟩ := c_0 (hall 0 (by decide))
  obtain e541 := c_1 (hall 1 (by decide))
  obtain ⟨e542, hk238, hk239, ks2_R⟩ := c_2 (hall 2 (by decide))
  obtain e543 := c_3 (hall 3 (by decide))
  obtain ⟨e544, hx246, hm247⟩ := c_4 (hall 4 (by decide))
  obtain ⟨e545, hlB248, kb_B248, lt_R_B248, lt_B101_B248, hk_B248⟩ := c_5 (hall 5 (by decide))
  obtain e546 := c_6 (hall 6 (by decide))
  obtain ⟨e547, hk255, hk256, ks7_R⟩ := c_7 (hall 7 (by decide))
  obtain e548 := c_8 (hall 8 (by decide))
  obtain ⟨e549, hx263, hm264⟩ := c_9 (hall 9 (by decide))
  obtain e550 := c_10 (hall 10 (by decide))
  obtain ⟨e551, hlB265, kb_B265, lt_R_B265, lt_B101_B265, hk_B265⟩ := c_11 (hall 11 (by decide))
  have ne_B231_B248 := pr_B231_B248 (hall 0 (by decide)) (hall 5 (by decide))
  have ne_B231_B265 := pr_B231_B265 (hall 0 (by decide)) (hall 11 (by decide))
  have ne_B248_B265 := pr_B248_B265 (hall 5 (by decide)) (hall 11 (by decide))
  refine wpo_storen (vs := [.int .i64 x245, .int .i64 x262]) (cs' := #[.int .i64 x245, .int .i64 x262]) rt_40 e551 e550 rfl (by simp [Value.oneCell']) kb_B265 (Nat.le_of_ble_eq_true rfl) rfl ?_
  intro w552 hS553
  have hb554 := low1 hb539 hS553.grw (by omega)
  refine wpo_nil ?_
  refine thn_n ?_
  refine wpf_seq ?_
  refine wpf_seq_region ?_
  refine wpo_move (v := .pointer (some ⟨R, 0, none⟩)) e537 rfl ?_
  have k555 := (ks7_R.grown hS553.grw (some_ne (by omega)))
  refine wpo_call (vs := [.pointer (some ⟨R, 0, none⟩), .int .i64 60]) gf_60 (args_cons rfl (args_cons rfl args_nil)) rfl (pick_c (p + 1 + 1) 60 (by omega) _ R bs _ _ _ k555 (by omega) (SlLt.low1 hs hb554 hlo) (by first | exact hb | exact fun b h => hb b (List.mem_of_mem_take h)) (by first | omega | (rw [List.length_take]; omega))) ?_
  rintro _ w561 ⟨k556, rfl, hk557, hk558, kR559, hg560⟩
  have hb562 := grown_trans hb554 hg560
  refine wpo_eql (q := decide (k556 = 0)) rfl rfl rfl rfl ?_
  refine wpo_nil ?_
  refine wpf_cond rfl (fun h563 => ?_) (fun h563 => ?_)
  ·
   have h564 := of_decide_eq_true h563
   refine wpf_region ?_
   refine wpo_buildSlice (ps := [(0, .int .i64 (-1)), (1, .int .i64 4)]) (e := 3) (cs := (([(-1), 4] : List Int).flatMap icell).toArray) (parts_cons rfl (parts_cons rfl parts_nil)) (fun _ => by kernel_rfl) rfl ?_
   intro B565 w566 hN567
   have hlB565 := hN_ge hN567 hb562
   have k568 := (((hN103.blk.grown hi536 (some_ne (by omega))).grown hS553.grw (some_ne (by omega))).grown hg560 (some_ne (by omega)))
   have lt_B101_B565 := hN_gtl hN567 (k568).lt
   have k569 := ((kb_B231.grown hS553.grw (some_ne (by omega))).grown hg560 (some_ne (by omega)))
   have lt_B231_B565 := hN_gtl hN567 (k569).lt
   have k570 := ((kb_B248.grown hS553.grw (some_ne (by omega))).grown hg560 (some_ne (by omega)))
   have lt_B248_B565 := hN_gtl hN567 (k570).lt
   have lt_R_B565 := hN_gtl hN567 (kR559).lt
   have k571 := (hS553.blk.grown hg560 (some_ne (by omega)))
   have lt_B265_B565 := hN_gtl hN567 (k571).lt
   have hb572 := low0 hb562 hN567.grw
   refine wpo_move (v := .pointer (some ⟨R, 0, none⟩)) e537 rfl ?_
   have k573 := (kR559.grown0 hN567.grw)
   refine wpo_call (vs := [.pointer (some ⟨R, 0, none⟩), .int .i64 2]) gf_60 (args_cons rfl (args_cons rfl args_nil)) rfl (pick_c (p + 1 + 1 + 1) 2 (by omega) _ R bs _ _ _ k573 (by omega) (SlLt.low1 hs hb572 hlo) (by first | exact hb | exact fun b h => hb b (List.mem_of_mem_take h)) (by first | omega | (rw [List.length_take]; omega))) ?_
   rintro _ w579 ⟨k574, rfl, hk575, hk576, kR577, hg578⟩
   have hb580 := grown_trans hb572 hg578
   refine wpo_indexAddr (o' := (k574).toNat * 1) es_43 rfl rfl (by omega) (by omega) (by omega) rfl ?_
   have k581 := (hN567.blk.grown hg578 (some_ne (by omega)))
   obtain ⟨x582, hx583⟩ := get_lt (l := ([(-1), 4] : List Int)) (i := (k574).toNat) (show (k574).toNat < 2 by omega)
   have hm584 := List.mem_of_getElem? hx583
   simp only [List.mem_cons, List.not_mem_nil, or_false] at hm584
   refine wpo_load1 (v := .int .i64 x582) ot_3 rfl ((rows_range wide_int k581 hx583) 0 _ rfl) rfl ?_
   refine wpo_fieldAddr (o' := 0) fo_40_0 e551 rfl rfl ?_
   have k585 := ((k571.grown0 hN567.grw).grown hg578 (some_ne (by omega)))
   refine wpo_store1 (v := .int .i64 x582) (cs' := #[.int .i64 x582, .int .i64 x262]) ot_3 rfl rfl rfl k585 (Nat.le_of_ble_eq_true rfl) rfl ?_
   intro w586 hS587
   have hb588 := low1 hb580 hS587.grw (by omega)
   refine wpo_nil ?_
   refine thn_n ?_
   refine wpf_seq_region ?_
   refine wpo_loadn (vs := [.int .i64 x582, .int .i64 x262]) rt_40 e551 rfl (hS587.blk.rangeL 0 2 rfl) rfl ?_
   have k589 := (((k568.grown0 hN567.grw).grown hg578 (some_ne (by omega))).grown hS587.grw (some_ne (by omega)))
   refine wpo_storen (vs := [.int .i64 x582, .int .i64 x262]) (cs' := #[.int .i64 x582, .int .i64 x262]) rt_40 e538 rfl rfl (by simp [Value.oneCell']) k589 (Nat.le_of_ble_eq_true rfl) rfl ?_
   intro w590 hS591
   have hb592 := low1 hb588 hS591.grw (by omega)
   refine wpo_nil ?_
   refine wpf_ret ?_
   have k593 := ((kR577.grown hS587.grw (some_ne (by omega))).grown hS591.grw (some_ne (by omega)))
   refine ⟨.agg #[.int .i64 x582, .int .i64 x262], resC rfl (resCell_mk (vs := [.int .i64 x582, .int .i64 x262]) rt_40 e538 rfl (hS591.blk.rangeL 0 2 rfl)), ⟨x582, x262⟩, (p + 1 + 1 + 1 + 1), rfl, show (-1 : Int) ≤ x582 by omega, show x582 ≤ (4 : Int) by omega, show (0 : Int) ≤ x262 by omega, show x262 ≤ (3 : Int) by omega, by omega, by omega, k593, hb592⟩
  ·
   have h594 := of_decide_eq_false h563
   refine wpf_skip ?_
   refine thn_n ?_
   refine wpf_seq_region ?_
   have k595 := (hS553.blk.grown hg560 (some_ne (by omega)))
   refine wpo_loadn (vs := [.int .i64 x245, .int .i64 x262]) rt_40 e551 rfl (k595.rangeL 0 2 rfl) rfl ?_
   have k596 := (((hN103.blk.grown hi536 (some_ne (by omega))).grown hS553.grw (some_ne (by omega))).grown hg560 (some_ne (by omega)))
   refine wpo_storen (vs := [.int .i64 x245, .int .i64 x262]) (cs' := #[.int .i64 x245, .int .i64 x262]) rt_40 e538 rfl rfl (by simp [Value.oneCell']) k596 (Nat.le_of_ble_eq_true rfl) rfl ?_
   intro w597 hS598
   have hb599 := low1 hb562 hS598.grw (by omega)
   refine wpo_nil ?_
   refine wpf_ret ?_
   have k600 := (kR559.grown hS598.grw (some_ne (by omega)))
   refine ⟨.agg #[.int .i64 x245, .int .i64 x262], resC rfl (resCell_mk (vs := [.int .i64 x245, .int .i64 x262]) rt_40 e538 rfl (hS598.blk.rangeL 0 2 rfl)), ⟨x245, x262⟩, (p + 1 + 1 + 1), rfl, show (-1 : Int) ≤ x245 by omega, show x245 ≤ (4 : Int) by omega, show (0 : Int) ≤ x262 by omega, show x262 ≤ (3 : Int) by omega, by omega, by omega, k600, hb599⟩
theorem es_54 : elemSz Try.prog 54 = some 8 := by kernel_rfl
theorem gf_84 : goFn Try.prog 84 = true := by kernel_rfl
theorem mk_43 : mkTy Try.prog 43 = some (3, 1, 8, some (.int .i64 0)) := by kernel_rfl
theorem mk_54 : mkTy Try.prog 54 = some (45, 8, 96, some (.agg #[.int .i64 0, .int .i64 0, .int .i64 0, .int .i64 0, .int .i64 0, .slice none 0 0, .slice none 0 0, .int .i64 0])) := by kernel_rfl
theorem thingExists_c (k : Int) (w : World) (a : Option Addr) (n c : Nat) : CallsR Try.prog 84 #[.slice a n c, .int .i64 k] w (fun v w' => v = .bool (inR k 1 (n : Int)) ∧ w.grownBy w' none) := by
 refine calls_of_wpf (n := 9) Try.func84 rfl Try.ntmps84 rfl ?_
 have hb0 := World.grownBy.refl w none
 refine wpf_seq_region ?_
 refine wpo_assign (v := .bool false) rfl rfl ?_
 refine wpo_nil ?_
 refine wpf_seq_region ?_
 refine wpo_move (v := .int .i64 k) rfl rfl ?_
 refine wpo_move (v := .slice a n c) rfl rfl ?_
 refine wpo_len (by kernel_rfl) rfl rfl ?_
 refine wpo_call (vs := [.int .i64 k, .int .i64 1, .int .i64 (n : Int)]) gf_69 (args_cons rfl (args_cons rfl (args_cons rfl args_nil))) rfl (inRange_c k 1 (n : Int) _) ?_
 rintro _ w101 ⟨rfl, hg102⟩
 have hb103 := low0 hb0 hg102
 refine wpo_assign (v := .bool (inR k 1 (n : Int))) rfl rfl ?_
 refine wpo_nil ?_
 refine wpf_ret ?_
 refine ⟨.bool (inR k 1 (n : Int)), res1 rfl rfl, ?_, hb103⟩
 rfl
theorem kindAt_c (k kd : Int) (hk : -9223372036854775807 ≤ k) (w : World) (ms : List MTh) (a : Option Addr) (c : Nat) (ht : TabAt w a ms) (hlen : TabLen ms) (hn : ms.length ≤ 1048576) : CallsR Try.prog 103 #[.slice a ms.length c, .int .i64 k, .int .i64 kd] w (fun v w' => v = .bool (kindAt (tabT ms) k kd) ∧ w.grownBy w' none) := by
 refine calls_of_wpf (n := 20) Try.func103 rfl Try.ntmps103 rfl ?_
 have hb0 := World.grownBy.refl w none
 refine wpf_seq_region ?_
 refine wpo_assign (v := .bool false) rfl rfl ?_
 refine wpo_nil ?_
 refine wpf_seq_region_mid (fun f' w' => (f' 6 = .bool (inR k 1 (ms.length : Int) && (decide ((mAt ms ((k - 1).toNat)).t.kind = kd)))) ∧ w.grownBy w' none) ?_ ?_
 ·
  refine wpo_move (v := .slice a ms.length c) rfl rfl ?_
  refine wpo_move (v := .int .i64 k) rfl rfl ?_
  refine wpo_call (vs := [.slice a ms.length c, .int .i64 k]) gf_84 (args_cons rfl (args_cons rfl args_nil)) rfl (thingExists_c k _ _ _ _) ?_
  rintro _ w116 ⟨rfl, hg117⟩
  have hb118 := low0 hb0 hg117
  refine wpo_move (v := .bool (inR k 1 (ms.length : Int))) rfl rfl ?_
  rcases bcases (inR k 1 (ms.length : Int)) with h119 | h119
  ·
   have hr120 := inR_iff.1 h119
   refine wpo_run rfl rfl rfl h119 ?_
   refine wpo_move (v := .slice a ms.length c) rfl rfl ?_
   refine wpo_run rfl rfl rfl h119 ?_
   refine wpo_move (v := .int .i64 k) rfl rfl ?_
   refine wpo_run rfl rfl rfl h119 ?_
   refine wpo_sub (c := k - 1) rfl rfl (by omega) (by omega) (by omega) rfl ?_
   refine wpo_run rfl rfl rfl h119 ?_
   obtain ⟨b123, q124, o125, ha126, ho127, hr128⟩ := SlAt.at (TabAt.low ht hb118).1 (map_get (mAt_get (show (k - 1).toNat < ms.length by omega)))
   have hle129 := TabLen.at hlen (mAt_get (show (k - 1).toNat < ms.length by omega))
   refine wpo_indexE es_54 rfl rfl ha126 ho127 (by omega) (by omega) rfl ?_
   refine wpo_run rfl rfl rfl h119 ?_
   refine wpo_fieldAddr (o' := o125) fo_45_0 rfl rfl rfl ?_
   refine wpo_run rfl rfl rfl h119 ?_
   refine wpo_load1 (v := .int .i64 ((mAt ms ((k - 1).toNat)).t.kind)) ot_3 rfl (hr128 0 _ rfl) rfl ?_
   refine wpo_run rfl rfl rfl h119 ?_
   refine wpo_move (v := .int .i64 kd) rfl rfl ?_
   refine wpo_run rfl rfl rfl h119 ?_
   refine wpo_eql (q := decide ((mAt ms ((k - 1).toNat)).t.kind = kd)) rfl rfl rfl rfl ?_
   refine wpo_pickt (v := .bool (decide ((mAt ms ((k - 1).toNat)).t.kind = kd))) rfl h119 rfl rfl ?_
   refine wpo_assign (v := .bool (decide ((mAt ms ((k - 1).toNat)).t.kind = kd))) rfl rfl ?_
   exact wpo_nil ⟨(congrArg Value.bool (by first | (simp only [h119, b0, b1, b2, b3, b4, b5, b6, b7, b8, b9]; done) | simp [h119])), hg117⟩
  ·
   iterate 8 refine wpo_pass rfl rfl rfl h119 rfl ?_
   refine wpo_pickf (v := .bool false) rfl h119 rfl rfl ?_
   refine wpo_assign (v := .bool false) rfl rfl ?_
   exact wpo_nil ⟨(congrArg Value.bool (by first | (simp only [h119, b0, b1, b2, b3, b4, b5, b6, b7, b8, b9]; done) | simp [h119])), hg117⟩
 ·
  rintro f130 w131 ⟨e132, hg133⟩
  have hb134 := low0 hb0 hg133
  refine wpf_ret ?_
  refine ⟨.bool (inR k 1 (ms.length : Int) && (decide ((mAt ms ((k - 1).toNat)).t.kind = kd))), res1 rfl e132, ?_, hb134⟩
  exact congrArg Value.bool kindAt_m
theorem sTableOk_c (w : World) (ms : List MTh) (a : Option Addr) (c : Nat) (ht : TabAt w a ms) (hlen : TabLen ms) (hn : ms.length ≤ 1048576) : CallsR Try.prog 34 #[.slice a ms.length c] w (fun v w' => v = .bool (tableOk (tabT ms)) ∧ w.grownBy w' none) := by
 refine calls_of_wpf (n := 92) Try.func34 rfl Try.ntmps34 rfl ?_
 have hb0 := World.grownBy.refl w none
 refine wpf_seq_region ?_
 refine wpo_assign (v := .bool false) rfl rfl ?_
 refine wpo_nil ?_
 refine wpf_seq ?_
 refine wpf_seq_region ?_
 refine wpo_assign (v := .int .i64 0) rfl rfl ?_
 refine wpo_nil ?_
 refine wpf_block ?_
 refine wpf_loopN (fun mm f' w' => ∃ (k : Nat), mm = ms.length - k ∧ k ≤ ms.length ∧ (((tabT ms).take k).all (rowOk (tabT ms))) = true ∧ f' 3 = .int .i64 (k : Int) ∧ f' 0 = .slice a ms.length c ∧ w.grownBy w' none) (ms.length - 0) ⟨0, rfl, (Nat.zero_le _), rfl, rfl, rfl, hb0⟩ ?_
 rintro mm f101 w102 ⟨k, hm104, hk, hall, e105, e106, hb103⟩
 refine wpf_seq ?_
 refine wpf_seq_region ?_
 refine wpo_move (v := .int .i64 (k : Int)) e105 rfl ?_
 refine wpo_move (v := .slice a ms.length c) e106 rfl ?_
 refine wpo_len (by kernel_rfl) rfl rfl ?_
 refine wpo_lss (q := decide ((k : Int) < (ms.length : Int))) rfl rfl rfl rfl ?_
 refine wpo_nil ?_
 refine wpf_cond rfl (fun h107 => ?_) (fun h107 => ?_)
 ·
  have h108 := of_decide_eq_true h107
  refine wpf_skip ?_
  refine thn_n ?_
  refine wpf_seq ?_
  refine wpf_block ?_
  refine wpf_seq ?_
  refine wpf_seq_region_mid (fun f' w' => (f' 0 = .slice a ms.length c ∧ f' 3 = .int .i64 (k : Int) ∧ f' 48 = .bool ((!thingOk (mAt ms k).t) || ((decide ((mAt ms k).t.kind = 5)) && ((decide ((ms.length : Int) < (mAt ms k).t.to)) || (!(decide ((mAt ms ((((mAt ms k).t.to) - 1).toNat)).t.kind = 1))))))) ∧ w102.grownBy w' none) ?_ ?_
  ·
   refine wpo_move (v := .slice a ms.length c) e106 rfl ?_
   refine wpo_move (v := .int .i64 (k : Int)) e105 rfl ?_
   obtain ⟨b144, q145, o146, ha147, ho148, hr149⟩ := SlAt.at (TabAt.low ht hb103).1 (map_get (mAt_get (show k < ms.length by omega)))
   have hle150 := TabLen.at hlen (mAt_get (show k < ms.length by omega))
   refine wpo_indexE es_54 rfl rfl ha147 ho148 (by omega) (by omega) rfl ?_
   refine wpo_loadn (vs := [.int .i64 ((mAt ms k).t.kind), .int .i64 ((mAt ms k).t.lab.s), .int .i64 ((mAt ms k).t.lab.v), .int .i64 ((mAt ms k).t.ve), .int .i64 ((mAt ms k).t.num), .slice ((mAt ms k).sa) ((mAt ms k).t.slots.length) ((mAt ms k).sc), .slice ((mAt ms k).qa) ((mAt ms k).t.queue.length) ((mAt ms k).qc), .int .i64 ((mAt ms k).t.to)]) rt_45 rfl rfl (range_sub hr149 0 8 rfl) rfl ?_
   refine wpo_call (vs := [.agg #[.int .i64 ((mAt ms k).t.kind), .int .i64 ((mAt ms k).t.lab.s), .int .i64 ((mAt ms k).t.lab.v), .int .i64 ((mAt ms k).t.ve), .int .i64 ((mAt ms k).t.num), .slice ((mAt ms k).sa) ((mAt ms k).t.slots.length) ((mAt ms k).sc), .slice ((mAt ms k).qa) ((mAt ms k).t.queue.length) ((mAt ms k).qc), .int .i64 ((mAt ms k).t.to)]]) gf_67 (args_cons rfl args_nil) rfl (sThingOk_c (mAt ms k) _ (TabAt.th (TabAt.low ht hb103) (mAt_get (show k < ms.length by omega))).1 (TabAt.th (TabAt.low ht hb103) (mAt_get (show k < ms.length by omega))).2.1 (by first | omega | exact Nat.le_of_ble_eq_true rfl | (simp only [List.length_nil, List.length_cons, List.length_append, List.length_replicate]; omega)) (by first | omega | exact Nat.le_of_ble_eq_true rfl | (simp only [List.length_nil, List.length_cons, List.length_append, List.length_replicate]; omega))) ?_
   rintro _ w151 ⟨rfl, hg152⟩
   have hb153 := low0 hb103 hg152
   refine wpo_not (b' := !thingOk (mAt ms k).t) rfl rfl rfl ?_
   refine wpo_move (v := .bool (!thingOk (mAt ms k).t)) rfl rfl ?_
   rcases bcases (!thingOk (mAt ms k).t) with h154 | h154
   ·
    have h155 := nt_t h154
    iterate 7 refine wpo_pass rfl rfl rfl h154 rfl ?_
    iterate 21 refine wpo_passu rfl rfl rfl rfl ?_
    refine wpo_pass rfl rfl rfl h154 rfl ?_
    refine wpo_pickt (v := .bool true) rfl h154 rfl rfl ?_
    exact wpo_nil ⟨⟨e106, e105, (congrArg Value.bool (by first | (simp only [h107, h154, h155, b0, b1, b2, b3, b4, b5, b6, b7, b8, b9]; done) | simp [h107, h154, h155]))⟩, hg152⟩
   ·
    have h156 := nt_f h154
    refine wpo_run rfl rfl rfl h154 ?_
    refine wpo_move (v := .slice a ms.length c) e106 rfl ?_
    refine wpo_run rfl rfl rfl h154 ?_
    refine wpo_move (v := .int .i64 (k : Int)) e105 rfl ?_
    refine wpo_run rfl rfl rfl h154 ?_
    refine wpo_indexE es_54 rfl rfl ha147 ho148 (by omega) (by omega) rfl ?_
    refine wpo_run rfl rfl rfl h154 ?_
    refine wpo_fieldAddr (o' := o146) fo_45_0 rfl rfl rfl ?_
    refine wpo_run rfl rfl rfl h154 ?_
    refine wpo_load1 (v := .int .i64 ((mAt ms k).t.kind)) ot_3 rfl ((range_low hr149 hg152) 0 _ rfl) rfl ?_
    refine wpo_run rfl rfl rfl h154 ?_
    refine wpo_eql (q := decide ((mAt ms k).t.kind = 5)) rfl rfl rfl rfl ?_
    refine wpo_run rfl rfl rfl h154 ?_
    refine wpo_move (v := .bool (decide ((mAt ms k).t.kind = 5))) rfl rfl ?_
    rcases bcases (decide ((mAt ms k).t.kind = 5)) with h157 | h157
    ·
     have hgt158 := th_gate h156 h157
     have h159 := of_decide_eq_true h157
     refine wpo_run rfl rfl rfl h157 ?_
     refine wpo_move (v := .slice a ms.length c) e106 rfl ?_
     refine wpo_run rfl rfl rfl h157 ?_
     refine wpo_move (v := .int .i64 (k : Int)) e105 rfl ?_
     refine wpo_run rfl rfl rfl h157 ?_
     refine wpo_indexE es_54 rfl rfl ha147 ho148 (by omega) (by omega) rfl ?_
     refine wpo_run rfl rfl rfl h157 ?_
     refine wpo_fieldAddr (o' := o146 + 7) fo_45_6 rfl rfl rfl ?_
     refine wpo_run rfl rfl rfl h157 ?_
     refine wpo_load1 (v := .int .i64 ((mAt ms k).t.to)) ot_3 rfl ((range_low hr149 hg152) 7 _ rfl) rfl ?_
     refine wpo_run rfl rfl rfl h157 ?_
     refine wpo_move (v := .slice a ms.length c) e106 rfl ?_
     refine wpo_run rfl rfl rfl h157 ?_
     refine wpo_len (by kernel_rfl) rfl rfl ?_
     refine wpo_run rfl rfl rfl h157 ?_
     refine wpo_gtr (q := decide ((ms.length : Int) < (mAt ms k).t.to)) rfl rfl rfl rfl ?_
     refine wpo_run rfl rfl rfl h157 ?_
     refine wpo_move (v := .bool (decide ((ms.length : Int) < (mAt ms k).t.to))) rfl rfl ?_
     rcases bcases (decide ((ms.length : Int) < (mAt ms k).t.to)) with h160 | h160
     ·
      have h161 := of_decide_eq_true h160
      iterate 11 refine wpo_pass rfl rfl rfl h160 rfl ?_
      refine wpo_run rfl rfl rfl h157 ?_
      refine wpo_pickt (v := .bool true) rfl h160 rfl rfl ?_
      refine wpo_run rfl rfl rfl h154 ?_
      refine wpo_pickt (v := .bool true) rfl h157 rfl rfl ?_
      refine wpo_pickf (v := .bool true) rfl h154 rfl rfl ?_
      exact wpo_nil ⟨⟨e106, e105, (congrArg Value.bool (by first | (simp only [h107, h154, h156, h157, h160, b0, b1, b2, b3, b4, b5, b6, b7, b8, b9]; done) | simp [h107, h154, h156, h157, h160]))⟩, hg152⟩
     ·
      have h162 := of_decide_eq_false h160
      refine wpo_run rfl rfl rfl h160 ?_
      refine wpo_move (v := .slice a ms.length c) e106 rfl ?_
      refine wpo_run rfl rfl rfl h160 ?_
      refine wpo_move (v := .slice a ms.length c) e106 rfl ?_
      refine wpo_run rfl rfl rfl h160 ?_
      refine wpo_move (v := .int .i64 (k : Int)) e105 rfl ?_
      refine wpo_run rfl rfl rfl h160 ?_
      refine wpo_indexE es_54 rfl rfl ha147 ho148 (by omega) (by omega) rfl ?_
      refine wpo_run rfl rfl rfl h160 ?_
      refine wpo_fieldAddr (o' := o146 + 7) fo_45_6 rfl rfl rfl ?_
      refine wpo_run rfl rfl rfl h160 ?_
      refine wpo_load1 (v := .int .i64 ((mAt ms k).t.to)) ot_3 rfl ((range_low hr149 hg152) 7 _ rfl) rfl ?_
      refine wpo_run rfl rfl rfl h160 ?_
      refine wpo_sub (c := ((mAt ms k).t.to) - 1) rfl rfl (by omega) (by omega) (by omega) rfl ?_
      refine wpo_run rfl rfl rfl h160 ?_
      obtain ⟨b165, q166, o167, ha168, ho169, hr170⟩ := SlAt.at (TabAt.low ht hb153).1 (map_get (mAt_get (show (((mAt ms k).t.to) - 1).toNat < ms.length by omega)))
      have hle171 := TabLen.at hlen (mAt_get (show (((mAt ms k).t.to) - 1).toNat < ms.length by omega))
      refine wpo_indexE es_54 rfl rfl ha168 ho169 (by omega) (by omega) rfl ?_
      refine wpo_run rfl rfl rfl h160 ?_
      refine wpo_fieldAddr (o' := o167) fo_45_0 rfl rfl rfl ?_
      refine wpo_run rfl rfl rfl h160 ?_
      refine wpo_load1 (v := .int .i64 ((mAt ms ((((mAt ms k).t.to) - 1).toNat)).t.kind)) ot_3 rfl (hr170 0 _ rfl) rfl ?_
      refine wpo_run rfl rfl rfl h160 ?_
      refine wpo_neq (q := !(decide ((mAt ms ((((mAt ms k).t.to) - 1).toNat)).t.kind = 1))) rfl rfl rfl rfl ?_
      refine wpo_run rfl rfl rfl h157 ?_
      refine wpo_pickf (v := .bool (!(decide ((mAt ms ((((mAt ms k).t.to) - 1).toNat)).t.kind = 1)))) rfl h160 rfl rfl ?_
      refine wpo_run rfl rfl rfl h154 ?_
      refine wpo_pickt (v := .bool (!(decide ((mAt ms ((((mAt ms k).t.to) - 1).toNat)).t.kind = 1)))) rfl h157 rfl rfl ?_
      refine wpo_pickf (v := .bool (!(decide ((mAt ms ((((mAt ms k).t.to) - 1).toNat)).t.kind = 1)))) rfl h154 rfl rfl ?_
      exact wpo_nil ⟨⟨e106, e105, (congrArg Value.bool (by first | (simp only [h107, h154, h156, h157, h160, b0, b1, b2, b3, b4, b5, b6, b7, b8, b9]; done) | simp [h107, h154, h156, h157, h160]))⟩, hg152⟩
    ·
     have h172 := of_decide_eq_false h157
     iterate 9 refine wpo_pass rfl rfl rfl h157 rfl ?_
     iterate 11 refine wpo_passu rfl rfl rfl rfl ?_
     refine wpo_pass rfl rfl rfl h157 rfl ?_
     refine wpo_run rfl rfl rfl h154 ?_
     refine wpo_pickf (v := .bool false) rfl h157 rfl rfl ?_
     refine wpo_pickf (v := .bool false) rfl h154 rfl rfl ?_
     exact wpo_nil ⟨⟨e106, e105, (congrArg Value.bool (by first | (simp only [h107, h154, h156, h157, b0, b1, b2, b3, b4, b5, b6, b7, b8, b9]; done) | simp [h107, h154, h156, h157]))⟩, hg152⟩
  ·
   rintro f173 w174 ⟨⟨e175, e176, e177⟩, hg178⟩
   have hb179 := low0 hb103 hg178
   refine wpf_cond e177 (fun h180 => ?_) (fun h180 => ?_)
   ·
    refine wpf_seq_region ?_
    refine wpo_assign (v := .bool false) rfl rfl ?_
    refine wpo_nil ?_
    refine wpf_ret ?_
    refine thn_r ?_
    refine blk_r ?_
    refine thn_r ?_
    refine thn_r ?_
    refine blk_r ?_
    refine thn_r ?_
    refine ⟨.bool false, res1 rfl rfl, ?_, hb179⟩
    exact congrArg Value.bool (tab_no (by omega) ((row_head rfl).1 h180))
   ·
    have h181 := or_l h180
    have h182 := nt_f h181
    have h183 := or_r h180
    refine wpf_skip ?_
    refine thn_n ?_
    refine wpf_seq_region ?_
    refine wpo_assign (v := .int .i64 0) rfl rfl ?_
    refine wpo_nil ?_
    refine wpf_block ?_
    refine wpf_loopN (fun mm f' w' => ∃ (j : Nat), mm = (mAt ms k).t.slots.length - j ∧ j ≤ (mAt ms k).t.slots.length ∧ (((mAt ms k).t.slots.take j).all (rightTo (tabT ms))) = true ∧ f' 4 = .int .i64 (j : Int) ∧ f' 0 = .slice a ms.length c ∧ f' 3 = .int .i64 (k : Int) ∧ w.grownBy w' none) ((mAt ms k).t.slots.length - 0) ⟨0, rfl, (Nat.zero_le _), rfl, rfl, e175, e176, hb179⟩ ?_
    rintro mm f184 w185 ⟨j, hm187, hj, hrs, e188, e189, e190, hb186⟩
    have hR0 : ∀ j, j < (mAt ms k).t.slots.length → 0 ≤ (rAt (mAt ms k).t.slots j).th ∧ (rAt (mAt ms k).t.slots j).th ≤ 8 := fun j hj => th_right ((row_head rfl).2 h180).1 (rAt_get hj)
    refine wpf_seq ?_
    refine wpf_seq_region ?_
    refine wpo_move (v := .int .i64 (j : Int)) e188 rfl ?_
    refine wpo_move (v := .slice a ms.length c) e189 rfl ?_
    refine wpo_move (v := .int .i64 (k : Int)) e190 rfl ?_
    obtain ⟨b193, q194, o195, ha196, ho197, hr198⟩ := SlAt.at (TabAt.low ht hb186).1 (map_get (mAt_get (show k < ms.length by omega)))
    have hle199 := TabLen.at hlen (mAt_get (show k < ms.length by omega))
    refine wpo_indexE es_54 rfl rfl ha196 ho197 (by omega) (by omega) rfl ?_
    refine wpo_fieldAddr (o' := o195 + 5) fo_45_4 rfl rfl rfl ?_
    refine wpo_load1 (v := .slice ((mAt ms k).sa) ((mAt ms k).t.slots.length) ((mAt ms k).sc)) ot_27 rfl (hr198 5 _ rfl) rfl ?_
    refine wpo_len (by kernel_rfl) rfl rfl ?_
    refine wpo_lss (q := decide ((j : Int) < ((mAt ms k).t.slots.length : Int))) rfl rfl rfl rfl ?_
    refine wpo_nil ?_
    refine wpf_cond rfl (fun h200 => ?_) (fun h200 => ?_)
    ·
     have h201 := of_decide_eq_true h200
     refine wpf_skip ?_
     refine thn_n ?_
     refine wpf_seq ?_
     refine wpf_block ?_
     refine wpf_seq_region ?_
     refine wpo_move (v := .slice a ms.length c) e189 rfl ?_
     refine wpo_move (v := .int .i64 (k : Int)) e190 rfl ?_
     refine wpo_indexE es_54 rfl rfl ha196 ho197 (by omega) (by omega) rfl ?_
     refine wpo_fieldAddr (o' := o195 + 5) fo_45_4 rfl rfl rfl ?_
     refine wpo_load1 (v := .slice ((mAt ms k).sa) ((mAt ms k).t.slots.length) ((mAt ms k).sc)) ot_27 rfl (hr198 5 _ rfl) rfl ?_
     refine wpo_move (v := .int .i64 (j : Int)) e188 rfl ?_
     obtain ⟨b204, q205, o206, ha207, ho208, hr209⟩ := SlAt.at (TabAt.th (TabAt.low ht hb186) (mAt_get (show k < ms.length by omega))).1 (map_get (rAt_get (show j < (mAt ms k).t.slots.length by omega)))
     refine wpo_indexE es_27 rfl rfl ha207 ho208 (by omega) (by omega) rfl ?_
     refine wpo_loadn (vs := [.int .i64 ((rAt (mAt ms k).t.slots j).th), .int .i64 ((rAt (mAt ms k).t.slots j).ve), .bool ((rAt (mAt ms k).t.slots j).rd), .bool ((rAt (mAt ms k).t.slots j).wr), .bool ((rAt (mAt ms k).t.slots j).wk)]) rt_29 rfl rfl (range_sub hr209 0 5 rfl) rfl ?_
     refine wpo_alloc (cs := #[.int .i64 0, .int .i64 0, .bool false, .bool false, .bool false]) zt_29 rfl rfl ?_
     intro B210 w211 hN212
     have hlB210 := hN_ge hN212 hb186
     have hb213 := low0 hb186 hN212.grw
     refine wpo_storen (vs := [.int .i64 ((rAt (mAt ms k).t.slots j).th), .int .i64 ((rAt (mAt ms k).t.slots j).ve), .bool ((rAt (mAt ms k).t.slots j).rd), .bool ((rAt (mAt ms k).t.slots j).wr), .bool ((rAt (mAt ms k).t.slots j).wk)]) (cs' := #[.int .i64 ((rAt (mAt ms k).t.slots j).th), .int .i64 ((rAt (mAt ms k).t.slots j).ve), .bool ((rAt (mAt ms k).t.slots j).rd), .bool ((rAt (mAt ms k).t.slots j).wr), .bool ((rAt (mAt ms k).t.slots j).wk)]) rt_29 rfl rfl rfl (by simp [Value.oneCell']) hN212.blk (Nat.le_of_ble_eq_true rfl) rfl ?_
     intro w214 hS215
     have hb216 := low1 hb213 hS215.grw (by omega)
     refine wpo_nil ?_
     refine wpf_seq_mid (fun f' w' => (f' 0 = .slice a ms.length c ∧ f' 3 = .int .i64 (k : Int) ∧ f' 4 = .int .i64 (j : Int) ∧ f' 88 = .bool ((decide ((ms.length : Int) < (rAt (mAt ms k).t.slots j).th)) || ((decide (0 < (rAt (mAt ms k).t.slots j).th)) && (decide ((mAt ms ((((rAt (mAt ms k).t.slots j).th) - 1).toNat)).t.ve < (rAt (mAt ms k).t.slots j).ve))))) ∧ w214.grownBy w' none) ?_ ?_
     ·
      rcases bcases (decide ((ms.length : Int) < (rAt (mAt ms k).t.slots j).th)) with h226 | h226
      ·
       have h227 := of_decide_eq_true h226
       refine wpf_draw (m := 19) (vals := [(67, .pointer (some ⟨B210, 0, none⟩)), (68, .int .i64 ((rAt (mAt ms k).t.slots j).th)), (69, .slice a ms.length c), (70, .int .i64 (ms.length : Int)), (71, .bool (decide ((ms.length : Int) < (rAt (mAt ms k).t.slots j).th))), (72, .bool (decide ((ms.length : Int) < (rAt (mAt ms k).t.slots j).th))), (73, undef), (74, undef), (75, undef), (76, undef), (77, undef), (78, undef), (79, undef), (80, undef), (81, undef), (82, undef), (83, undef), (84, undef), (85, undef)]) (fun w' => w214.grownBy w' none) mixed_ (by kernel_rfl) (grown_drew _) ?_ ?_
       ·
        refine yll_cons rfl (fun w228 hi229 => ?_) ?_
        ·
         have hb230 := low0 hb216 hi229
         refine wpo_fieldAddr (o' := 0) fo_29_0 rfl rfl rfl ?_
         exact wpo_nil ⟨rfl, hi229⟩
        refine yll_cons rfl (fun w231 hi232 => ?_) ?_
        ·
         have hb233 := low0 hb216 hi232
         have k234 := (hS215.blk.grown0 hi232)
         refine wpo_load1 (v := .int .i64 ((rAt (mAt ms k).t.slots j).th)) ot_3 rfl (k234.cell rfl) rfl ?_
         exact wpo_nil ⟨rfl, hi232⟩
        refine yll_cons rfl (fun w235 hi236 => ?_) ?_
        ·
         have hb237 := low0 hb216 hi236
         refine wpo_move (v := .slice a ms.length c) e189 rfl ?_
         exact wpo_nil ⟨rfl, hi236⟩
        refine yll_cons rfl (fun w238 hi239 => ?_) ?_
        ·
         have hb240 := low0 hb216 hi239
         refine wpo_len (by kernel_rfl) rfl rfl ?_
         exact wpo_nil ⟨rfl, hi239⟩
        refine yll_cons rfl (fun w241 hi242 => ?_) ?_
        ·
         have hb243 := low0 hb216 hi242
         refine wpo_gtr (q := decide ((ms.length : Int) < (rAt (mAt ms k).t.slots j).th)) rfl rfl rfl rfl ?_
         exact wpo_nil ⟨rfl, hi242⟩
        refine yll_cons rfl (fun w244 hi245 => ?_) ?_
        ·
         have hb246 := low0 hb216 hi245
         refine wpo_move (v := .bool (decide ((ms.length : Int) < (rAt (mAt ms k).t.slots j).th))) rfl rfl ?_
         exact wpo_nil ⟨rfl, hi245⟩
        refine yll_cons rfl (fun w247 hi248 => ?_) ?_
        ·
         have hb249 := low0 hb216 hi248
         refine wpo_pass rfl rfl rfl h226 rfl ?_
         exact wpo_nil ⟨rfl, hi248⟩
        refine yll_cons rfl (fun w250 hi251 => ?_) ?_
        ·
         have hb252 := low0 hb216 hi251
         refine wpo_pass rfl rfl rfl h226 rfl ?_
         exact wpo_nil ⟨rfl, hi251⟩
        refine yll_cons rfl (fun w253 hi254 => ?_) ?_
        ·
         have hb255 := low0 hb216 hi254
         refine wpo_pass rfl rfl rfl h226 rfl ?_
         exact wpo_nil ⟨rfl, hi254⟩
        refine yll_cons rfl (fun w256 hi257 => ?_) ?_
        ·
         have hb258 := low0 hb216 hi257
         refine wpo_pass rfl rfl rfl h226 rfl ?_
         exact wpo_nil ⟨rfl, hi257⟩
        refine yll_cons rfl (fun w259 hi260 => ?_) ?_
        ·
         have hb261 := low0 hb216 hi260
         refine wpo_passu rfl rfl rfl rfl ?_
         exact wpo_nil ⟨rfl, hi260⟩
        refine yll_cons rfl (fun w262 hi263 => ?_) ?_
        ·
         have hb264 := low0 hb216 hi263
         refine wpo_passu rfl rfl rfl rfl ?_
         exact wpo_nil ⟨rfl, hi263⟩
        refine yll_cons rfl (fun w265 hi266 => ?_) ?_
        ·
         have hb267 := low0 hb216 hi266
         refine wpo_passu rfl rfl rfl rfl ?_
         exact wpo_nil ⟨rfl, hi266⟩
        refine yll_cons rfl (fun w268 hi269 => ?_) ?_
        ·
         have hb270 := low0 hb216 hi269
         refine wpo_passu rfl rfl rfl rfl ?_
         exact wpo_nil ⟨rfl, hi269⟩
        refine yll_cons rfl (fun w271 hi272 => ?_) ?_
        ·
         have hb273 := low0 hb216 hi272
         refine wpo_passu rfl rfl rfl rfl ?_
         exact wpo_nil ⟨rfl, hi272⟩
        refine yll_cons rfl (fun w274 hi275 => ?_) ?_
        ·
         have hb276 := low0 hb216 hi275
         refine wpo_passu rfl rfl rfl rfl ?_
         exact wpo_nil ⟨rfl, hi275⟩
        refine yll_cons rfl (fun w277 hi278 => ?_) ?_
        ·
         have hb279 := low0 hb216 hi278
         refine wpo_passu rfl rfl rfl rfl ?_
         exact wpo_nil ⟨rfl, hi278⟩
        refine yll_cons rfl (fun w280 hi281 => ?_) ?_
        ·
         have hb282 := low0 hb216 hi281
         refine wpo_passu rfl rfl rfl rfl ?_
         exact wpo_nil ⟨rfl, hi281⟩
        refine yll_cons rfl (fun w283 hi284 => ?_) ?_
        ·
         have hb285 := low0 hb216 hi284
         refine wpo_passu rfl rfl rfl rfl ?_
         exact wpo_nil ⟨rfl, hi284⟩
        exact yll_nil
       ·
        intro w286 hi287
        have hb288 := low0 hb216 hi287
        refine wpo_passu rfl rfl rfl rfl ?_
        refine wpo_pass rfl rfl rfl h226 rfl ?_
        refine wpo_pickt (v := .bool true) rfl h226 rfl rfl ?_
        exact wpo_nil (thn_n ⟨⟨e189, e190, e188, (congrArg Value.bool (by first | (simp only [h107, h180, h181, h182, h183, h200, h226, b0, b1, b2, b3, b4, b5, b6, b7, b8, b9]; done) | simp [h107, h180, h181, h182, h183, h200, h226]))⟩, hi287⟩)
      ·
       have h289 := of_decide_eq_false h226
       rcases bcases (decide (0 < (rAt (mAt ms k).t.slots j).th)) with h290 | h290
       ·
        have h291 := of_decide_eq_true h290
        obtain ⟨b303, q304, o305, ha306, ho307, hr308⟩ := SlAt.at (TabAt.low ht hb216).1 (map_get (mAt_get (show (((rAt (mAt ms k).t.slots j).th) - 1).toNat < ms.length by omega)))
        have hle309 := TabLen.at hlen (mAt_get (show (((rAt (mAt ms k).t.slots j).th) - 1).toNat < ms.length by omega))
        refine wpf_draw (m := 19) (vals := [(67, .pointer (some ⟨B210, 0, none⟩)), (68, .int .i64 ((rAt (mAt ms k).t.slots j).th)), (69, .slice a ms.length c), (70, .int .i64 (ms.length : Int)), (71, .bool (decide ((ms.length : Int) < (rAt (mAt ms k).t.slots j).th))), (72, .bool (decide ((ms.length : Int) < (rAt (mAt ms k).t.slots j).th))), (73, .pointer (some ⟨B210, 0, none⟩)), (74, .int .i64 ((rAt (mAt ms k).t.slots j).th)), (75, .bool (decide (0 < (rAt (mAt ms k).t.slots j).th))), (76, .bool (decide (0 < (rAt (mAt ms k).t.slots j).th))), (77, .pointer (some ⟨B210, 1, none⟩)), (78, .int .i64 ((rAt (mAt ms k).t.slots j).ve)), (79, .slice a ms.length c), (80, .pointer (some ⟨B210, 0, none⟩)), (81, .int .i64 ((rAt (mAt ms k).t.slots j).th)), (82, .int .i64 (((rAt (mAt ms k).t.slots j).th) - 1)), (83, .pointer (some ⟨b303, o305, none⟩)), (84, .pointer (some ⟨b303, o305 + 3, none⟩)), (85, .int .i64 ((mAt ms ((((rAt (mAt ms k).t.slots j).th) - 1).toNat)).t.ve))]) (fun w' => w214.grownBy w' none) mixed_ (by kernel_rfl) (grown_drew _) ?_ ?_
        ·
         refine yll_cons rfl (fun w310 hi311 => ?_) ?_
         ·
          have hb312 := low0 hb216 hi311
          refine wpo_fieldAddr (o' := 0) fo_29_0 rfl rfl rfl ?_
          exact wpo_nil ⟨rfl, hi311⟩
         refine yll_cons rfl (fun w313 hi314 => ?_) ?_
         ·
          have hb315 := low0 hb216 hi314
          have k316 := (hS215.blk.grown0 hi314)
          refine wpo_load1 (v := .int .i64 ((rAt (mAt ms k).t.slots j).th)) ot_3 rfl (k316.cell rfl) rfl ?_
          exact wpo_nil ⟨rfl, hi314⟩
         refine yll_cons rfl (fun w317 hi318 => ?_) ?_
         ·
          have hb319 := low0 hb216 hi318
          refine wpo_move (v := .slice a ms.length c) e189 rfl ?_
          exact wpo_nil ⟨rfl, hi318⟩
         refine yll_cons rfl (fun w320 hi321 => ?_) ?_
         ·
          have hb322 := low0 hb216 hi321
          refine wpo_len (by kernel_rfl) rfl rfl ?_
          exact wpo_nil ⟨rfl, hi321⟩
         refine yll_cons rfl (fun w323 hi324 => ?_) ?_
         ·
          have hb325 := low0 hb216 hi324
          refine wpo_gtr (q := decide ((ms.length : Int) < (rAt (mAt ms k).t.slots j).th)) rfl rfl rfl rfl ?_
          exact wpo_nil ⟨rfl, hi324⟩
         refine yll_cons rfl (fun w326 hi327 => ?_) ?_
         ·
          have hb328 := low0 hb216 hi327
          refine wpo_move (v := .bool (decide ((ms.length : Int) < (rAt (mAt ms k).t.slots j).th))) rfl rfl ?_
          exact wpo_nil ⟨rfl, hi327⟩
         refine yll_cons rfl (fun w329 hi330 => ?_) ?_
         ·
          have hb331 := low0 hb216 hi330
          refine wpo_run rfl rfl rfl h226 ?_
          refine wpo_fieldAddr (o' := 0) fo_29_0 rfl rfl rfl ?_
          exact wpo_nil ⟨rfl, hi330⟩
         refine yll_cons rfl (fun w332 hi333 => ?_) ?_
         ·
          have hb334 := low0 hb216 hi333
          refine wpo_run rfl rfl rfl h226 ?_
          have k335 := (hS215.blk.grown0 hi333)
          refine wpo_load1 (v := .int .i64 ((rAt (mAt ms k).t.slots j).th)) ot_3 rfl (k335.cell rfl) rfl ?_
          exact wpo_nil ⟨rfl, hi333⟩
         refine yll_cons rfl (fun w336 hi337 => ?_) ?_
         ·
          have hb338 := low0 hb216 hi337
          refine wpo_run rfl rfl rfl h226 ?_
          refine wpo_gtr (q := decide (0 < (rAt (mAt ms k).t.slots j).th)) rfl rfl rfl rfl ?_
          exact wpo_nil ⟨rfl, hi337⟩
         refine yll_cons rfl (fun w339 hi340 => ?_) ?_
         ·
          have hb341 := low0 hb216 hi340
          refine wpo_run rfl rfl rfl h226 ?_
          refine wpo_move (v := .bool (decide (0 < (rAt (mAt ms k).t.slots j).th))) rfl rfl ?_
          exact wpo_nil ⟨rfl, hi340⟩
         refine yll_cons rfl (fun w342 hi343 => ?_) ?_
         ·
          have hb344 := low0 hb216 hi343
          refine wpo_run rfl rfl rfl h290 ?_
          refine wpo_fieldAddr (o' := 1) fo_29_1 rfl rfl rfl ?_
          exact wpo_nil ⟨rfl, hi343⟩
         refine yll_cons rfl (fun w345 hi346 => ?_) ?_
         ·
          have hb347 := low0 hb216 hi346
          refine wpo_run rfl rfl rfl h290 ?_
          have k348 := (hS215.blk.grown0 hi346)
          refine wpo_load1 (v := .int .i64 ((rAt (mAt ms k).t.slots j).ve)) ot_3 rfl (k348.cell rfl) rfl ?_
          exact wpo_nil ⟨rfl, hi346⟩
         refine yll_cons rfl (fun w349 hi350 => ?_) ?_
         ·
          have hb351 := low0 hb216 hi350
          refine wpo_run rfl rfl rfl h290 ?_
          refine wpo_move (v := .slice a ms.length c) e189 rfl ?_
          exact wpo_nil ⟨rfl, hi350⟩
         refine yll_cons rfl (fun w352 hi353 => ?_) ?_
         ·
          have hb354 := low0 hb216 hi353
          refine wpo_run rfl rfl rfl h290 ?_
          refine wpo_fieldAddr (o' := 0) fo_29_0 rfl rfl rfl ?_
          exact wpo_nil ⟨rfl, hi353⟩
         refine yll_cons rfl (fun w355 hi356 => ?_) ?_
         ·
          have hb357 := low0 hb216 hi356
          refine wpo_run rfl rfl rfl h290 ?_
          have k358 := (hS215.blk.grown0 hi356)
          refine wpo_load1 (v := .int .i64 ((rAt (mAt ms k).t.slots j).th)) ot_3 rfl (k358.cell rfl) rfl ?_
          exact wpo_nil ⟨rfl, hi356⟩
         refine yll_cons rfl (fun w359 hi360 => ?_) ?_
         ·
          have hb361 := low0 hb216 hi360
          refine wpo_run rfl rfl rfl h290 ?_
          refine wpo_sub (c := ((rAt (mAt ms k).t.slots j).th) - 1) rfl rfl (by omega) (by omega) (by omega) rfl ?_
          exact wpo_nil ⟨rfl, hi360⟩
         refine yll_cons rfl (fun w362 hi363 => ?_) ?_
         ·
          have hb364 := low0 hb216 hi363
          refine wpo_run rfl rfl rfl h290 ?_
          refine wpo_indexE es_54 rfl rfl ha306 ho307 (by omega) (by omega) rfl ?_
          exact wpo_nil ⟨rfl, hi363⟩
         refine yll_cons rfl (fun w365 hi366 => ?_) ?_
         ·
          have hb367 := low0 hb216 hi366
          refine wpo_run rfl rfl rfl h290 ?_
          refine wpo_fieldAddr (o' := o305 + 3) fo_45_2 rfl rfl rfl ?_
          exact wpo_nil ⟨rfl, hi366⟩
         refine yll_cons rfl (fun w368 hi369 => ?_) ?_
         ·
          have hb370 := low0 hb216 hi369
          refine wpo_run rfl rfl rfl h290 ?_
          refine wpo_load1 (v := .int .i64 ((mAt ms ((((rAt (mAt ms k).t.slots j).th) - 1).toNat)).t.ve)) ot_3 rfl ((range_low hr308 hi369) 3 _ rfl) rfl ?_
          exact wpo_nil ⟨rfl, hi369⟩
         exact yll_nil
        ·
         intro w371 hi372
         have hb373 := low0 hb216 hi372
         refine wpo_run rfl rfl rfl h290 ?_
         refine wpo_gtr (q := decide ((mAt ms ((((rAt (mAt ms k).t.slots j).th) - 1).toNat)).t.ve < (rAt (mAt ms k).t.slots j).ve)) rfl rfl rfl rfl ?_
         refine wpo_run rfl rfl rfl h226 ?_
         refine wpo_pickt (v := .bool (decide ((mAt ms ((((rAt (mAt ms k).t.slots j).th) - 1).toNat)).t.ve < (rAt (mAt ms k).t.slots j).ve))) rfl h290 rfl rfl ?_
         refine wpo_pickf (v := .bool (decide ((mAt ms ((((rAt (mAt ms k).t.slots j).th) - 1).toNat)).t.ve < (rAt (mAt ms k).t.slots j).ve))) rfl h226 rfl rfl ?_
         exact wpo_nil (thn_n ⟨⟨e189, e190, e188, (congrArg Value.bool (by first | (simp only [h107, h180, h181, h182, h183, h200, h226, h290, b0, b1, b2, b3, b4, b5, b6, b7, b8, b9]; done) | simp [h107, h180, h181, h182, h183, h200, h226, h290]))⟩, hi372⟩)
       ·
        have h374 := of_decide_eq_false h290
        refine wpf_draw (m := 19) (vals := [(67, .pointer (some ⟨B210, 0, none⟩)), (68, .int .i64 ((rAt (mAt ms k).t.slots j).th)), (69, .slice a ms.length c), (70, .int .i64 (ms.length : Int)), (71, .bool (decide ((ms.length : Int) < (rAt (mAt ms k).t.slots j).th))), (72, .bool (decide ((ms.length : Int) < (rAt (mAt ms k).t.slots j).th))), (73, .pointer (some ⟨B210, 0, none⟩)), (74, .int .i64 ((rAt (mAt ms k).t.slots j).th)), (75, .bool (decide (0 < (rAt (mAt ms k).t.slots j).th))), (76, .bool (decide (0 < (rAt (mAt ms k).t.slots j).th))), (77, undef), (78, undef), (79, undef), (80, undef), (81, undef), (82, undef), (83, undef), (84, undef), (85, undef)]) (fun w' => w214.grownBy w' none) mixed_ (by kernel_rfl) (grown_drew _) ?_ ?_
        ·
         refine yll_cons rfl (fun w375 hi376 => ?_) ?_
         ·
          have hb377 := low0 hb216 hi376
          refine wpo_fieldAddr (o' := 0) fo_29_0 rfl rfl rfl ?_
          exact wpo_nil ⟨rfl, hi376⟩
         refine yll_cons rfl (fun w378 hi379 => ?_) ?_
         ·
          have hb380 := low0 hb216 hi379
          have k381 := (hS215.blk.grown0 hi379)
          refine wpo_load1 (v := .int .i64 ((rAt (mAt ms k).t.slots j).th)) ot_3 rfl (k381.cell rfl) rfl ?_
          exact wpo_nil ⟨rfl, hi379⟩
         refine yll_cons rfl (fun w382 hi383 => ?_) ?_
         ·
          have hb384 := low0 hb216 hi383
          refine wpo_move (v := .slice a ms.length c) e189 rfl ?_
          exact wpo_nil ⟨rfl, hi383⟩
         refine yll_cons rfl (fun w385 hi386 => ?_) ?_
         ·
          have hb387 := low0 hb216 hi386
          refine wpo_len (by kernel_rfl) rfl rfl ?_
          exact wpo_nil ⟨rfl, hi386⟩
         refine yll_cons rfl (fun w388 hi389 => ?_) ?_
         ·
          have hb390 := low0 hb216 hi389
          refine wpo_gtr (q := decide ((ms.length : Int) < (rAt (mAt ms k).t.slots j).th)) rfl rfl rfl rfl ?_
          exact wpo_nil ⟨rfl, hi389⟩
         refine yll_cons rfl (fun w391 hi392 => ?_) ?_
         ·
          have hb393 := low0 hb216 hi392
          refine wpo_move (v := .bool (decide ((ms.length : Int) < (rAt (mAt ms k).t.slots j).th))) rfl rfl ?_
          exact wpo_nil ⟨rfl, hi392⟩
         refine yll_cons rfl (fun w394 hi395 => ?_) ?_
         ·
          have hb396 := low0 hb216 hi395
          refine wpo_run rfl rfl rfl h226 ?_
          refine wpo_fieldAddr (o' := 0) fo_29_0 rfl rfl rfl ?_
          exact wpo_nil ⟨rfl, hi395⟩
         refine yll_cons rfl (fun w397 hi398 => ?_) ?_
         ·
          have hb399 := low0 hb216 hi398
          refine wpo_run rfl rfl rfl h226 ?_
          have k400 := (hS215.blk.grown0 hi398)
          refine wpo_load1 (v := .int .i64 ((rAt (mAt ms k).t.slots j).th)) ot_3 rfl (k400.cell rfl) rfl ?_
          exact wpo_nil ⟨rfl, hi398⟩
         refine yll_cons rfl (fun w401 hi402 => ?_) ?_
         ·
          have hb403 := low0 hb216 hi402
          refine wpo_run rfl rfl rfl h226 ?_
          refine wpo_gtr (q := decide (0 < (rAt (mAt ms k).t.slots j).th)) rfl rfl rfl rfl ?_
          exact wpo_nil ⟨rfl, hi402⟩
         refine yll_cons rfl (fun w404 hi405 => ?_) ?_
         ·
          have hb406 := low0 hb216 hi405
          refine wpo_run rfl rfl rfl h226 ?_
          refine wpo_move (v := .bool (decide (0 < (rAt (mAt ms k).t.slots j).th))) rfl rfl ?_
          exact wpo_nil ⟨rfl, hi405⟩
         refine yll_cons rfl (fun w407 hi408 => ?_) ?_
         ·
          have hb409 := low0 hb216 hi408
          refine wpo_pass rfl rfl rfl h290 rfl ?_
          exact wpo_nil ⟨rfl, hi408⟩
         refine yll_cons rfl (fun w410 hi411 => ?_) ?_
         ·
          have hb412 := low0 hb216 hi411
          refine wpo_pass rfl rfl rfl h290 rfl ?_
          exact wpo_nil ⟨rfl, hi411⟩
         refine yll_cons rfl (fun w413 hi414 => ?_) ?_
         ·
          have hb415 := low0 hb216 hi414
          refine wpo_pass rfl rfl rfl h290 rfl ?_
          exact wpo_nil ⟨rfl, hi414⟩
         refine yll_cons rfl (fun w416 hi417 => ?_) ?_
         ·
          have hb418 := low0 hb216 hi417
          refine wpo_pass rfl rfl rfl h290 rfl ?_
          exact wpo_nil ⟨rfl, hi417⟩
         refine yll_cons rfl (fun w419 hi420 => ?_) ?_
         ·
          have hb421 := low0 hb216 hi420
          refine wpo_pass rfl rfl rfl h290 rfl ?_
          exact wpo_nil ⟨rfl, hi420⟩
         refine yll_cons rfl (fun w422 hi423 => ?_) ?_
         ·
          have hb424 := low0 hb216 hi423
          refine wpo_pass rfl rfl rfl h290 rfl ?_
          exact wpo_nil ⟨rfl, hi423⟩
         refine yll_cons rfl (fun w425 hi426 => ?_) ?_
         ·
          have hb427 := low0 hb216 hi426
          refine wpo_pass rfl rfl rfl h290 rfl ?_
          exact wpo_nil ⟨rfl, hi426⟩
         refine yll_cons rfl (fun w428 hi429 => ?_) ?_
         ·
          have hb430 := low0 hb216 hi429
          refine wpo_pass rfl rfl rfl h290 rfl ?_
          exact wpo_nil ⟨rfl, hi429⟩
         refine yll_cons rfl (fun w431 hi432 => ?_) ?_
         ·
          have hb433 := low0 hb216 hi432
          refine wpo_pass rfl rfl rfl h290 rfl ?_
          exact wpo_nil ⟨rfl, hi432⟩
         exact yll_nil
        ·
         intro w434 hi435
         have hb436 := low0 hb216 hi435
         refine wpo_pass rfl rfl rfl h290 rfl ?_
         refine wpo_run rfl rfl rfl h226 ?_
         refine wpo_pickf (v := .bool false) rfl h290 rfl rfl ?_
         refine wpo_pickf (v := .bool false) rfl h226 rfl rfl ?_
         exact wpo_nil (thn_n ⟨⟨e189, e190, e188, (congrArg Value.bool (by first | (simp only [h107, h180, h181, h182, h183, h200, h226, h290, b0, b1, b2, b3, b4, b5, b6, b7, b8, b9]; done) | simp [h107, h180, h181, h182, h183, h200, h226, h290]))⟩, hi435⟩)
     ·
      rintro f437 w438 ⟨⟨e439, e440, e441, e442⟩, hg443⟩
      have hb444 := low0 hb216 hg443
      refine wpf_cond e442 (fun h445 => ?_) (fun h445 => ?_)
      ·
       refine wpf_seq_region ?_
       refine wpo_assign (v := .bool false) rfl rfl ?_
       refine wpo_nil ?_
       refine wpf_ret ?_
       refine blk_r ?_
       refine thn_r ?_
       refine thn_r ?_
       refine blk_r ?_
       refine blk_r ?_
       refine thn_r ?_
       refine thn_r ?_
       refine blk_r ?_
       refine thn_r ?_
       refine ⟨.bool false, res1 rfl rfl, ?_, hb444⟩
       exact congrArg Value.bool (tab_no (by omega) (row_no1 (rAt_get (by omega)) (nt_t ((row_right (th_right ((row_head rfl).2 h180).1 (rAt_get (by omega))).1).symm.trans h445))))
      ·
       have h446 := or_l h445
       have h447 := of_decide_eq_false h446
       have h448 := or_r h445
       refine wpf_skip ?_
       refine blk_n ?_
       refine thn_n ?_
       refine wpf_region ?_
       refine wpo_move (v := .int .i64 (j : Int)) e441 rfl ?_
       refine wpo_add (c := (j : Int) + 1) rfl rfl (by omega) (by omega) (by omega) rfl ?_
       refine wpo_assign (v := .int .i64 ((j : Int) + 1)) rfl rfl ?_
       refine wpo_nil ?_
       refine thn_n ?_
       exact ⟨(mAt ms k).t.slots.length - (j + 1), by omega, (j + 1), rfl, (by omega), (take_all_succ hrs (rAt_get (by omega)) (nt_f ((row_right (th_right ((row_head rfl).2 h180).1 (rAt_get (by omega))).1).symm.trans h445))), rfl, e439, e440, hb444⟩
    ·
     have h449 := of_decide_eq_false h200
     refine wpf_exit ?_
     refine thn_e ?_
     refine thn_e ?_
     refine blk_e ?_
     refine blk_n ?_
     refine thn_n ?_
     refine wpf_region ?_
     refine wpo_move (v := .int .i64 (k : Int)) e190 rfl ?_
     refine wpo_add (c := (k : Int) + 1) rfl rfl (by omega) (by omega) (by omega) rfl ?_
     refine wpo_assign (v := .int .i64 ((k : Int) + 1)) rfl rfl ?_
     refine wpo_nil ?_
     refine thn_n ?_
     exact ⟨ms.length - (k + 1), by omega, (k + 1), rfl, (by omega), (take_all_succ hall (tab_at (by omega)) (row_yes ((row_head rfl).2 h180).1 ((row_head rfl).2 h180).2 hrs (by omega))), rfl, e189, hb186⟩
 ·
  have h450 := of_decide_eq_false h107
  refine wpf_exit ?_
  refine thn_e ?_
  refine thn_e ?_
  refine blk_e ?_
  refine thn_n ?_
  refine wpf_seq_region ?_
  refine wpo_move (v := .slice a ms.length c) e106 rfl ?_
  refine wpo_len (by kernel_rfl) rfl rfl ?_
  refine wpo_call (vs := [.int .i64 (ms.length : Int), .int .i64 1, .int .i64 8]) gf_85 (args_cons rfl (args_cons rfl (args_cons rfl args_nil))) rfl (l6In_c (ms.length : Int) 1 8 _) ?_
  rintro _ w451 ⟨rfl, hg452⟩
  have hb453 := low0 hb103 hg452
  refine wpo_assign (v := .bool (inR (ms.length : Int) 1 8)) rfl rfl ?_
  refine wpo_nil ?_
  refine wpf_ret ?_
  refine ⟨.bool (inR (ms.length : Int) 1 8), res1 rfl rfl, ?_, hb453⟩
  exact congrArg Value.bool (tab_yes hall (by omega))
theorem gf_103 : goFn Try.prog 103 = true := by kernel_rfl
theorem gf_104 : goFn Try.prog 104 = true := by kernel_rfl
theorem ot_54 : oneTy Try.prog 54 = true := by kernel_rfl
theorem zt_4 : zeroTy Try.prog 4 = some (.bool false) := by kernel_rfl
theorem allRights_c (w : World) (ms : List MTh) (a : Option Addr) (c : Nat) : CallsR Try.prog 104 #[.slice a ms.length c] w (fun v w' => ∃ B : Nat, v = .func (.func 115) #[] #[.pointer (some ⟨B, 0, none⟩)] ∧ w.heap.size ≤ B ∧ Blk w' B 54 #[.slice a ms.length c] ∧ w.grownBy w' none) := by
 refine calls_of_wpf (n := 4) Try.func104 rfl Try.ntmps104 rfl ?_
 have hb0 := World.grownBy.refl w none
 refine wpf_seq_region ?_
 refine wpo_box (v := .slice a ms.length c) (cs := #[.slice a ms.length c]) rfl rfl rfl ?_
 intro B101 w102 hN103
 have hlB101 := hN_ge hN103 hb0
 have hb104 := low0 hb0 hN103.grw
 refine wpo_assign (v := .nilFunc) rfl rfl ?_
 refine wpo_nil ?_
 refine wpf_seq_region ?_
 refine wpo_makeFunc (vs := [.pointer (some ⟨B101, 0, none⟩)]) (args_cons rfl args_nil) rfl ?_
 refine wpo_assign (v := .func (.func 115) #[] #[.pointer (some ⟨B101, 0, none⟩)]) rfl rfl ?_
 refine wpo_nil ?_
 refine wpf_ret ?_
 refine ⟨.func (.func 115) #[] #[.pointer (some ⟨B101, 0, none⟩)], res1 rfl rfl, B101, rfl, hlB101, hN103.blk, hb104⟩
theorem rights_stops (m : Nat) (w : World) (B : Nat) (ms : List MTh) (a : Option Addr) (c : Nat) (ht : TabAt w a ms) (hlen : TabLen ms) (hn : ms.length ≤ 1048576) (hB : Blk w B 54 #[.slice a ms.length c]) :
    SeqStopsK Fence.wide m Try.prog 115 #[.pointer (some ⟨B, 0, none⟩)] (fun x : Rt => #[.agg x.cells.toArray]) (Below w.heap.size) (fun xs => xs = allR ms) (fun pre => pre <+: allR ms) (allR ms).length w := by
 intro l J Jx W hW hJ hJx hY h0
 have hb0 := gob hW
 show CallsIn Fence.wide m Try.prog 115 #[.func (.yield l) #[] #[], .pointer (some ⟨B, 0, none⟩)] W _
 refine (callsIn_of_wpg (n := 26) (m := m) (R := fun v w' => (∃ xs, xs = allR ms ∧ J xs w') ∨ (∃ pre, pre <+: allR ms ∧ Jx pre w')) Try.func115 rfl Try.ntmps115 rfl ?_).mono (fun e w' ⟨v, he, h⟩ => ⟨⟨v, he⟩, h⟩)
 refine wpg_seq_region wd_wide ?_
 refine wpo_load1 (v := .slice a ms.length c) ot_54 rfl ((hB.grown0 hb0).cell rfl) rfl ?_
 refine wpo_len (by kernel_rfl) rfl rfl ?_
 refine wpo_move (v := .int .i64 0) rfl rfl ?_
 refine wpo_nil ?_
 refine wpg_block ?_
 refine wpg_loopN (fun mm f' w' => ∃ (k : Nat), mm = ms.length - k ∧ k ≤ ms.length ∧ J (allR (ms.take k)) w' ∧ f' 9 = .int .i64 (k : Int) ∧ f' 0 = .func (.yield l) #[] #[] ∧ f' 7 = .slice a ms.length c ∧ f' 8 = .int .i64 (ms.length : Int) ∧ w.grownBy w' none) (ms.length - 0) ⟨0, rfl, (Nat.zero_le _), h0, rfl, rfl, rfl, rfl, hb0⟩ ?_
 rintro mm f101 w102 ⟨k, hm104, hk, hJk, e105, e106, e107, e108, hb103⟩
 refine wpg_seq_region wd_wide ?_
 refine wpo_lss (q := decide ((k : Int) < (ms.length : Int))) e105 e108 rfl rfl ?_
 refine wpo_nil ?_
 refine wpg_seq ?_
 refine wpg_cond rfl (fun h109 => ?_) (fun h109 => ?_)
 ·
  have h110 := of_decide_eq_true h109
  refine wpg_skip ?_
  refine thn_n ?_
  refine wpg_seq ?_
  refine wpg_block ?_
  refine wpg_seq_region wd_wide ?_
  obtain ⟨b113, q114, o115, ha116, ho117, hr118⟩ := SlAt.at (TabAt.low ht hb103).1 (map_get (mAt_get (show k < ms.length by omega)))
  have hle119 := TabLen.at hlen (mAt_get (show k < ms.length by omega))
  refine wpo_indexE es_54 e107 e105 ha116 ho117 (by omega) (by omega) rfl ?_
  refine wpo_loadn (vs := [.int .i64 ((mAt ms k).t.kind), .int .i64 ((mAt ms k).t.lab.s), .int .i64 ((mAt ms k).t.lab.v), .int .i64 ((mAt ms k).t.ve), .int .i64 ((mAt ms k).t.num), .slice ((mAt ms k).sa) ((mAt ms k).t.slots.length) ((mAt ms k).sc), .slice ((mAt ms k).qa) ((mAt ms k).t.queue.length) ((mAt ms k).qc), .int .i64 ((mAt ms k).t.to)]) rt_45 rfl rfl (range_sub hr118 0 8 rfl) rfl ?_
  refine wpo_alloc (cs := #[.int .i64 0, .int .i64 0, .int .i64 0, .int .i64 0, .int .i64 0, .slice none 0 0, .slice none 0 0, .int .i64 0]) zt_45 rfl rfl ?_
  intro B120 w121 hN122
  have hlB120 := hN_ge hN122 hb103
  have hb123 := low0 hb103 hN122.grw
  refine wpo_storen (vs := [.int .i64 ((mAt ms k).t.kind), .int .i64 ((mAt ms k).t.lab.s), .int .i64 ((mAt ms k).t.lab.v), .int .i64 ((mAt ms k).t.ve), .int .i64 ((mAt ms k).t.num), .slice ((mAt ms k).sa) ((mAt ms k).t.slots.length) ((mAt ms k).sc), .slice ((mAt ms k).qa) ((mAt ms k).t.queue.length) ((mAt ms k).qc), .int .i64 ((mAt ms k).t.to)]) (cs' := #[.int .i64 ((mAt ms k).t.kind), .int .i64 ((mAt ms k).t.lab.s), .int .i64 ((mAt ms k).t.lab.v), .int .i64 ((mAt ms k).t.ve), .int .i64 ((mAt ms k).t.num), .slice ((mAt ms k).sa) ((mAt ms k).t.slots.length) ((mAt ms k).sc), .slice ((mAt ms k).qa) ((mAt ms k).t.queue.length) ((mAt ms k).qc), .int .i64 ((mAt ms k).t.to)]) rt_45 rfl rfl rfl (by simp [Value.oneCell']) hN122.blk (Nat.le_of_ble_eq_true rfl) rfl ?_
  intro w124 hS125
  have hb126 := low1 hb123 hS125.grw (by omega)
  refine wpo_nil ?_
  refine wpg_seq_region wd_wide ?_
  refine wpo_fieldAddr (o' := 5) fo_45_4 rfl rfl rfl ?_
  refine wpo_load1 (v := .slice ((mAt ms k).sa) ((mAt ms k).t.slots.length) ((mAt ms k).sc)) ot_27 rfl (hS125.blk.cell rfl) rfl ?_
  refine wpo_len (by kernel_rfl) rfl rfl ?_
  refine wpo_move (v := .int .i64 0) rfl rfl ?_
  refine wpo_nil ?_
  refine wpg_block ?_
  refine wpg_loopN (fun mm f' w' => ∃ (j : Nat), mm = (mAt ms k).t.slots.length - j ∧ j ≤ (mAt ms k).t.slots.length ∧ J (preR ms k j) w' ∧ f' 16 = .int .i64 (j : Int) ∧ f' 0 = .func (.yield l) #[] #[] ∧ f' 7 = .slice a ms.length c ∧ f' 8 = .int .i64 (ms.length : Int) ∧ f' 9 = .int .i64 (k : Int) ∧ f' 14 = .slice ((mAt ms k).sa) ((mAt ms k).t.slots.length) ((mAt ms k).sc) ∧ f' 15 = .int .i64 ((mAt ms k).t.slots.length : Int) ∧ w.grownBy w' none) ((mAt ms k).t.slots.length - 0) ⟨0, rfl, (Nat.zero_le _), (by rw [preR_zero]; exact (hJ _ _ _ none hJk (low1 hN122.grw hS125.grw (Nat.le_trans ((World.grownBy.refl _ none)).size (Nat.le_of_eq hN122.eq.symm))) (fun r e => by cases e))), rfl, e106, e107, e108, e105, rfl, rfl, hb126⟩ ?_
  rintro mm f127 w128 ⟨j, hm130, hj, hJj, e131, e132, e133, e134, e135, e136, e137, hb129⟩
  refine wpg_seq_region wd_wide ?_
  refine wpo_lss (q := decide ((j : Int) < ((mAt ms k).t.slots.length : Int))) e131 e137 rfl rfl ?_
  refine wpo_nil ?_
  refine wpg_seq ?_
  refine wpg_cond rfl (fun h138 => ?_) (fun h138 => ?_)
  ·
   have h139 := of_decide_eq_true h138
   refine wpg_skip ?_
   refine thn_n ?_
   refine wpg_seq ?_
   refine wpg_block ?_
   refine wpg_seq_region wd_wide ?_
   obtain ⟨b142, q143, o144, ha145, ho146, hr147⟩ := SlAt.at (TabAt.th (TabAt.low ht hb129) (mAt_get (show k < ms.length by omega))).1 (map_get (rAt_get (show j < (mAt ms k).t.slots.length by omega)))
   refine wpo_indexE es_27 e136 e131 ha145 ho146 (by omega) (by omega) rfl ?_
   refine wpo_loadn (vs := [.int .i64 ((rAt (mAt ms k).t.slots j).th), .int .i64 ((rAt (mAt ms k).t.slots j).ve), .bool ((rAt (mAt ms k).t.slots j).rd), .bool ((rAt (mAt ms k).t.slots j).wr), .bool ((rAt (mAt ms k).t.slots j).wk)]) rt_29 rfl rfl (range_sub hr147 0 5 rfl) rfl ?_
   refine wpo_alloc (cs := #[.int .i64 0, .int .i64 0, .bool false, .bool false, .bool false]) zt_29 rfl rfl ?_
   intro B148 w149 hN150
   have hlB148 := hN_ge hN150 hb129
   have hb151 := low0 hb129 hN150.grw
   refine wpo_storen (vs := [.int .i64 ((rAt (mAt ms k).t.slots j).th), .int .i64 ((rAt (mAt ms k).t.slots j).ve), .bool ((rAt (mAt ms k).t.slots j).rd), .bool ((rAt (mAt ms k).t.slots j).wr), .bool ((rAt (mAt ms k).t.slots j).wk)]) (cs' := #[.int .i64 ((rAt (mAt ms k).t.slots j).th), .int .i64 ((rAt (mAt ms k).t.slots j).ve), .bool ((rAt (mAt ms k).t.slots j).rd), .bool ((rAt (mAt ms k).t.slots j).wr), .bool ((rAt (mAt ms k).t.slots j).wk)]) rt_29 rfl rfl rfl (by simp [Value.oneCell']) hN150.blk (Nat.le_of_ble_eq_true rfl) rfl ?_
   intro w152 hS153
   have hb154 := low1 hb151 hS153.grw (by omega)
   refine wpo_nil ?_
   refine wpg_seq ?_
   refine wpg_region' ?_
   refine wpog_at 2 wd_wide (by kernel_rfl) ?_
   simp only [List.take_succ_cons, List.take_zero]
   refine wpo_move (v := .func (.yield l) #[] #[]) e132 rfl ?_
   refine wpo_loadn (vs := [.int .i64 ((rAt (mAt ms k).t.slots j).th), .int .i64 ((rAt (mAt ms k).t.slots j).ve), .bool ((rAt (mAt ms k).t.slots j).rd), .bool ((rAt (mAt ms k).t.slots j).wr), .bool ((rAt (mAt ms k).t.slots j).wk)]) rt_29 rfl rfl (hS153.blk.rangeL 0 5 rfl) rfl ?_
   refine wpo_nil ?_
   simp only [List.drop_succ_cons, List.drop_zero]
   refine wpog_yield wd_wide rfl rfl (vs := [.agg #[.int .i64 ((rAt (mAt ms k).t.slots j).th), .int .i64 ((rAt (mAt ms k).t.slots j).ve), .bool ((rAt (mAt ms k).t.slots j).rd), .bool ((rAt (mAt ms k).t.slots j).wr), .bool ((rAt (mAt ms k).t.slots j).wk)]]) (args_cons rfl args_nil) rfl (hY (preR ms k j) _ _ (hJ _ _ _ none hJj (low1 hN150.grw hS153.grw (Nat.le_trans ((World.grownBy.refl _ none)).size (Nat.le_of_eq hN150.eq.symm))) (fun r e => by cases e)) (preR_lt (by omega) (by omega))) ?_
   rintro _ w155 (⟨rfl, hJ157, hg156⟩ | ⟨rfl, hJx158⟩)
   ·
    refine ⟨true, rfl, ?_⟩
    have hb159 := grown_below hb154 hg156
    refine wpog_of wd_wide (by kernel_rfl) ?_
    refine wpo_not (b' := false) rfl rfl rfl ?_
    refine wpo_nil ?_
    refine thn_n ?_
    refine wpg_condf rfl rfl ?_
    refine wpg_skip ?_
    refine blk_n ?_
    refine thn_n ?_
    refine wpg_region wd_wide ?_
    refine wpo_add (c := (j : Int) + 1) e131 rfl (by omega) (by omega) (by omega) rfl ?_
    refine wpo_move (v := .int .i64 ((j : Int) + 1)) rfl rfl ?_
    refine wpo_nil ?_
    refine thn_n ?_
    exact ⟨(mAt ms k).t.slots.length - (j + 1), by omega, (j + 1), rfl, (by omega), (by rw [← preR_snoc (by omega)]; exact hJ157), rfl, e132, e133, e134, e135, e136, e137, hb159⟩
   ·
    refine ⟨false, rfl, ?_⟩
    refine wpog_of wd_wide (by kernel_rfl) ?_
    refine wpo_not (b' := true) rfl rfl rfl ?_
    refine wpo_nil ?_
    refine thn_n ?_
    refine wpg_condt rfl rfl ?_
    refine wpg_ret ?_
    refine blk_r ?_
    refine thn_r ?_
    refine thn_r ?_
    refine blk_r ?_
    refine blk_r ?_
    refine thn_r ?_
    refine thn_r ?_
    refine blk_r ?_
    refine ⟨.tuple #[], res0 rfl, Or.inr ⟨_, preR_prefix (k := k) (j := j + 1) (by omega), ?_⟩⟩
    rw [← preR_snoc (k := k) (j := j) (by omega)]
    exact hJx158
  ·
   have h160 := of_decide_eq_false h138
   refine wpg_exit ?_
   refine thn_e ?_
   refine thn_e ?_
   refine blk_e ?_
   refine blk_n ?_
   refine thn_n ?_
   refine wpg_region wd_wide ?_
   refine wpo_add (c := (k : Int) + 1) e135 rfl (by omega) (by omega) (by omega) rfl ?_
   refine wpo_move (v := .int .i64 ((k : Int) + 1)) rfl rfl ?_
   refine wpo_nil ?_
   refine thn_n ?_
   exact ⟨ms.length - (k + 1), by omega, (k + 1), rfl, (by omega), (by rw [← preR_next (j := j) (by omega) (by omega)]; exact hJj), rfl, e132, e133, e134, hb129⟩
 ·
  have h161 := of_decide_eq_false h109
  refine wpg_exit ?_
  refine thn_e ?_
  refine thn_e ?_
  refine blk_e ?_
  refine ⟨.tuple #[], res0 rfl, Or.inl ⟨_, rfl, ?_⟩⟩
  have kk := hJk
  rw [allR_take (by omega)] at kk
  exact kk
theorem TableOk_c (w : World) (ms : List MTh) (a : Option Addr) (c : Nat) (ht : TabAt w a ms) (hlen : TabLen ms) (hn : ms.length ≤ 1048576) : CallsR Try.prog 83 #[.slice a ms.length c] w (fun v w' => v = .bool (tableOk (tabT ms)) ∧ w.grownBy w' none) := by
 refine callsA (n := 53) (m := 9) Try.func83 rfl Try.ntmps83 rfl ?_
 have hb0 := World.grownBy.refl w none
 refine wpa_seq_region ?_
 refine wpo_box (v := .slice a ms.length c) (cs := #[.slice a ms.length c]) rfl rfl rfl ?_
 intro B101 w102 hN103
 have hlB101 := hN_ge hN103 hb0
 have hb104 := low0 hb0 hN103.grw
 refine wpo_alloc (cs := #[.bool false]) zt_4 rfl rfl ?_
 intro B105 w106 hN107
 have hlB105 := hN_ge hN107 hb104
 have lt_B101_B105 := hN_gtl hN107 (hN103.blk).lt
 have hb108 := low0 hb104 hN107.grw
 refine wpo_nil ?_
 refine wpa_seq ?_
 refine wpf_seq_region ?_
 have k109 := (hN103.blk.grown0 hN107.grw)
 refine wpo_load1 (v := .slice a ms.length c) ot_54 rfl (k109.cell rfl) rfl ?_
 refine wpo_len (by kernel_rfl) rfl rfl ?_
 refine wpo_call (vs := [.int .i64 (ms.length : Int), .int .i64 1, .int .i64 8]) gf_69 (args_cons rfl (args_cons rfl (args_cons rfl args_nil))) rfl (inRange_c (ms.length : Int) 1 8 _) ?_
 rintro _ w110 ⟨rfl, hg111⟩
 have hb112 := low0 hb108 hg111
 refine wpo_not (b' := !inR (ms.length : Int) 1 8) rfl rfl rfl ?_
 refine wpo_nil ?_
 refine wpf_cond rfl (fun h113 => ?_) (fun h113 => ?_)
 ·
  have h114 := nt_t h113
  refine wpf_seq_region ?_
  have k115 := (hN107.blk.grown0 hg111)
  refine wpo_store1 (v := .bool false) (cs' := #[.bool false]) ot_4 rfl rfl rfl k115 (Nat.le_of_ble_eq_true rfl) rfl ?_
  intro w116 hS117
  have hb118 := low1 hb112 hS117.grw (by omega)
  refine wpo_nil ?_
  refine wpf_ret ?_
  refine thn_r ?_
  exact endA (resC rfl (resCell_mk1 ot_4 rfl (hS117.blk.cell rfl))) ⟨congrArg Value.bool (tabi_len h114).symm, hb118⟩
 ·
  have h119 := nt_f h113
  have hr120 := inR_iff.1 h119
  refine wpf_skip ?_
  refine thn_n ?_
  refine wpa_seq ?_
  refine wpf_seq_region ?_
  have k121 := (k109.grown0 hg111)
  refine wpo_load1 (v := .slice a ms.length c) ot_54 rfl (k121.cell rfl) rfl ?_
  refine wpo_len (by kernel_rfl) rfl rfl ?_
  refine wpo_move (v := .int .i64 0) rfl rfl ?_
  refine wpo_nil ?_
  refine wpf_block ?_
  have k122 := (hN107.blk.grown0 hg111)
  refine wpf_loopN (fun mm f' w' => ∃ (k : Nat), mm = ms.length - k ∧ k ≤ ms.length ∧ (((tabT ms).take k).all (headOk (tabT ms))) = true ∧ f' 12 = .int .i64 (k : Int) ∧ f' 0 = .slice a ms.length c ∧ f' 1 = .pointer (some ⟨B101, 0, none⟩) ∧ f' 2 = .pointer (some ⟨B105, 0, none⟩) ∧ f' 10 = .slice a ms.length c ∧ f' 11 = .int .i64 (ms.length : Int) ∧ w.grownBy w' none ∧ Blk w' B101 54 #[.slice a ms.length c] ∧ Blk w' B105 4 #[.bool false]) (ms.length - 0) ⟨0, rfl, (Nat.zero_le _), rfl, rfl, rfl, rfl, rfl, rfl, rfl, hb112, k121, k122⟩ ?_
  rintro mm f123 w124 ⟨k, hm126, hk, hall, e127, e128, e129, e130, e131, e132, hb125, k133, k134⟩
  refine wpf_seq_region ?_
  refine wpo_lss (q := decide ((k : Int) < (ms.length : Int))) e127 e132 rfl rfl ?_
  refine wpo_nil ?_
  refine wpf_seq ?_
  refine wpf_cond rfl (fun h135 => ?_) (fun h135 => ?_)
  ·
   have h136 := of_decide_eq_true h135
   refine wpf_skip ?_
   refine thn_n ?_
   refine wpf_seq ?_
   refine wpf_block ?_
   refine wpf_seq_region ?_
   obtain ⟨b139, q140, o141, ha142, ho143, hr144⟩ := SlAt.at (TabAt.low ht hb125).1 (map_get (mAt_get (show k < ms.length by omega)))
   have hle145 := TabLen.at hlen (mAt_get (show k < ms.length by omega))
   refine wpo_indexE es_54 e131 e127 ha142 ho143 (by omega) (by omega) rfl ?_
   refine wpo_loadn (vs := [.int .i64 ((mAt ms k).t.kind), .int .i64 ((mAt ms k).t.lab.s), .int .i64 ((mAt ms k).t.lab.v), .int .i64 ((mAt ms k).t.ve), .int .i64 ((mAt ms k).t.num), .slice ((mAt ms k).sa) ((mAt ms k).t.slots.length) ((mAt ms k).sc), .slice ((mAt ms k).qa) ((mAt ms k).t.queue.length) ((mAt ms k).qc), .int .i64 ((mAt ms k).t.to)]) rt_45 rfl rfl (range_sub hr144 0 8 rfl) rfl ?_
   refine wpo_alloc (cs := #[.int .i64 0, .int .i64 0, .int .i64 0, .int .i64 0, .int .i64 0, .slice none 0 0, .slice none 0 0, .int .i64 0]) zt_45 rfl rfl ?_
   intro B146 w147 hN148
   have hlB146 := hN_ge hN148 hb125
   have lt_B101_B146 := hN_gtl hN148 (k133).lt
   have lt_B105_B146 := hN_gtl hN148 (k134).lt
   have hb149 := low0 hb125 hN148.grw
   refine wpo_storen (vs := [.int .i64 ((mAt ms k).t.kind), .int .i64 ((mAt ms k).t.lab.s), .int .i64 ((mAt ms k).t.lab.v), .int .i64 ((mAt ms k).t.ve), .int .i64 ((mAt ms k).t.num), .slice ((mAt ms k).sa) ((mAt ms k).t.slots.length) ((mAt ms k).sc), .slice ((mAt ms k).qa) ((mAt ms k).t.queue.length) ((mAt ms k).qc), .int .i64 ((mAt ms k).t.to)]) (cs' := #[.int .i64 ((mAt ms k).t.kind), .int .i64 ((mAt ms k).t.lab.s), .int .i64 ((mAt ms k).t.lab.v), .int .i64 ((mAt ms k).t.ve), .int .i64 ((mAt ms k).t.num), .slice ((mAt ms k).sa) ((mAt ms k).t.slots.length) ((mAt ms k).sc), .slice ((mAt ms k).qa) ((mAt ms k).t.queue.length) ((mAt ms k).qc), .int .i64 ((mAt ms k).t.to)]) rt_45 rfl rfl rfl (by simp [Value.oneCell']) hN148.blk (Nat.le_of_ble_eq_true rfl) rfl ?_
   intro w150 hS151
   have hb152 := low1 hb149 hS151.grw (by omega)
   refine wpo_nil ?_
   refine wpf_seq ?_
   refine wpf_seq_region ?_
   refine wpo_loadn (vs := [.int .i64 ((mAt ms k).t.kind), .int .i64 ((mAt ms k).t.lab.s), .int .i64 ((mAt ms k).t.lab.v), .int .i64 ((mAt ms k).t.ve), .int .i64 ((mAt ms k).t.num), .slice ((mAt ms k).sa) ((mAt ms k).t.slots.length) ((mAt ms k).sc), .slice ((mAt ms k).qa) ((mAt ms k).t.queue.length) ((mAt ms k).qc), .int .i64 ((mAt ms k).t.to)]) rt_45 rfl rfl (hS151.blk.rangeL 0 8 rfl) rfl ?_
   refine wpo_call (vs := [.agg #[.int .i64 ((mAt ms k).t.kind), .int .i64 ((mAt ms k).t.lab.s), .int .i64 ((mAt ms k).t.lab.v), .int .i64 ((mAt ms k).t.ve), .int .i64 ((mAt ms k).t.num), .slice ((mAt ms k).sa) ((mAt ms k).t.slots.length) ((mAt ms k).sc), .slice ((mAt ms k).qa) ((mAt ms k).t.queue.length) ((mAt ms k).qc), .int .i64 ((mAt ms k).t.to)]]) gf_26 (args_cons rfl args_nil) rfl (ThingOk_c (mAt ms k) _ (TabAt.th (TabAt.low ht hb152) (mAt_get (show k < ms.length by omega))).1 (TabAt.th (TabAt.low ht hb152) (mAt_get (show k < ms.length by omega))).2.1 (by first | omega | exact Nat.le_of_ble_eq_true rfl | (simp only [List.length_nil, List.length_cons, List.length_append, List.length_replicate]; omega)) (by first | omega | exact Nat.le_of_ble_eq_true rfl | (simp only [List.length_nil, List.length_cons, List.length_append, List.length_replicate]; omega))) ?_
   rintro _ w153 ⟨rfl, hg154⟩
   have hb155 := low0 hb152 hg154
   refine wpo_not (b' := !thingOk (mAt ms k).t) rfl rfl rfl ?_
   refine wpo_nil ?_
   refine wpf_cond rfl (fun h156 => ?_) (fun h156 => ?_)
   ·
    have h157 := nt_t h156
    refine wpf_seq_region ?_
    have k158 := (((k134.grown0 hN148.grw).grown hS151.grw (some_ne (by omega))).grown0 hg154)
    refine wpo_store1 (v := .bool false) (cs' := #[.bool false]) ot_4 e130 rfl rfl k158 (Nat.le_of_ble_eq_true rfl) rfl ?_
    intro w159 hS160
    have hb161 := low1 hb155 hS160.grw (by omega)
    refine wpo_nil ?_
    refine wpf_ret ?_
    refine thn_r ?_
    refine blk_r ?_
    refine thn_r ?_
    refine thn_r ?_
    refine blk_r ?_
    refine thn_r ?_
    exact endA (resC rfl (resCell_mk1 ot_4 e130 (hS160.blk.cell rfl))) ⟨congrArg Value.bool (tabi_no (k := k) (by omega) (by unfold headOk; rw [h157]; rfl)).symm, hb161⟩
   ·
    have h162 := nt_f h156
    refine wpf_skip ?_
    refine thn_n ?_
    refine wpf_seq_region_mid (fun f' w' => (f' 0 = .slice a ms.length c ∧ f' 1 = .pointer (some ⟨B101, 0, none⟩) ∧ f' 2 = .pointer (some ⟨B105, 0, none⟩) ∧ f' 10 = .slice a ms.length c ∧ f' 11 = .int .i64 (ms.length : Int) ∧ f' 12 = .int .i64 (k : Int) ∧ f' 28 = .bool ((decide ((mAt ms k).t.kind = 5)) && (!kindAt (tabT ms) ((mAt ms k).t.to) 1))) ∧ w153.grownBy w' none) ?_ ?_
    ·
     refine wpo_fieldAddr (o' := 0) fo_45_0 rfl rfl rfl ?_
     have k169 := (hS151.blk.grown0 hg154)
     refine wpo_load1 (v := .int .i64 ((mAt ms k).t.kind)) ot_3 rfl (k169.cell rfl) rfl ?_
     refine wpo_eql (q := decide ((mAt ms k).t.kind = 5)) rfl rfl rfl rfl ?_
     refine wpo_move (v := .bool (decide ((mAt ms k).t.kind = 5))) rfl rfl ?_
     rcases bcases (decide ((mAt ms k).t.kind = 5)) with h170 | h170
     ·
      have hgt171 := th_gate h162 h170
      have h172 := of_decide_eq_true h170
      refine wpo_run rfl rfl rfl h170 ?_
      have k173 := (((k133.grown0 hN148.grw).grown hS151.grw (some_ne (by omega))).grown0 hg154)
      refine wpo_load1 (v := .slice a ms.length c) ot_54 e129 (k173.cell rfl) rfl ?_
      refine wpo_run rfl rfl rfl h170 ?_
      refine wpo_fieldAddr (o' := 7) fo_45_6 rfl rfl rfl ?_
      refine wpo_run rfl rfl rfl h170 ?_
      refine wpo_load1 (v := .int .i64 ((mAt ms k).t.to)) ot_3 rfl (k169.cell rfl) rfl ?_
      refine wpo_run rfl rfl rfl h170 ?_
      refine wpo_call (vs := [.slice a ms.length c, .int .i64 ((mAt ms k).t.to), .int .i64 1]) gf_103 (args_cons rfl (args_cons rfl (args_cons rfl args_nil))) rfl (kindAt_c ((mAt ms k).t.to) 1 (by omega) _ ms _ _ (TabAt.low ht hb155) hlen (by omega)) ?_
      rintro _ w174 ⟨rfl, hg175⟩
      have hb176 := low0 hb155 hg175
      refine wpo_run rfl rfl rfl h170 ?_
      refine wpo_not (b' := !kindAt (tabT ms) ((mAt ms k).t.to) 1) rfl rfl rfl ?_
      refine wpo_pickt (v := .bool (!kindAt (tabT ms) ((mAt ms k).t.to) 1)) rfl h170 rfl rfl ?_
      exact wpo_nil ⟨⟨e128, e129, e130, e131, e132, e127, (congrArg Value.bool (by first | (simp only [h113, h119, h135, h156, h162, h170, b0, b1, b2, b3, b4, b5, b6, b7, b8, b9]; done) | simp [h113, h119, h135, h156, h162, h170]))⟩, hg175⟩
     ·
      have h177 := of_decide_eq_false h170
      iterate 5 refine wpo_pass rfl rfl rfl h170 rfl ?_
      refine wpo_pickf (v := .bool false) rfl h170 rfl rfl ?_
      exact wpo_nil ⟨⟨e128, e129, e130, e131, e132, e127, (congrArg Value.bool (by first | (simp only [h113, h119, h135, h156, h162, h170, b0, b1, b2, b3, b4, b5, b6, b7, b8, b9]; done) | simp [h113, h119, h135, h156, h162, h170]))⟩, (World.grownBy.refl _ _)⟩
    ·
     rintro f178 w179 ⟨⟨e180, e181, e182, e183, e184, e185, e186⟩, hg187⟩
     have hb188 := low0 hb155 hg187
     refine wpf_cond e186 (fun h189 => ?_) (fun h189 => ?_)
     ·
      have h190 := and_l h189
      have hgt191 := th_gate h162 h190
      have h192 := of_decide_eq_true h190
      have h193 := and_r h189
      have h194 := nt_t h193
      refine wpf_seq_region ?_
      have k195 := ((((k134.grown0 hN148.grw).grown hS151.grw (some_ne (by omega))).grown0 hg154).grown0 hg187)
      refine wpo_store1 (v := .bool false) (cs' := #[.bool false]) ot_4 e182 rfl rfl k195 (Nat.le_of_ble_eq_true rfl) rfl ?_
      intro w196 hS197
      have hb198 := low1 hb188 hS197.grw (by omega)
      refine wpo_nil ?_
      refine wpf_ret ?_
      refine blk_r ?_
      refine thn_r ?_
      refine thn_r ?_
      refine blk_r ?_
      refine thn_r ?_
      exact endA (resC rfl (resCell_mk1 ot_4 e182 (hS197.blk.cell rfl))) ⟨congrArg Value.bool (tabi_no (k := k) (by omega) (by unfold headOk; rw [nt_t (gate_i.symm.trans h189), Bool.and_false])).symm, hb198⟩
     ·
      refine wpf_skip ?_
      refine blk_n ?_
      refine thn_n ?_
      refine wpf_region ?_
      refine wpo_add (c := (k : Int) + 1) e185 rfl (by omega) (by omega) (by omega) rfl ?_
      refine wpo_move (v := .int .i64 ((k : Int) + 1)) rfl rfl ?_
      refine wpo_nil ?_
      refine thn_n ?_
      have k199 := ((((k133.grown0 hN148.grw).grown hS151.grw (some_ne (by omega))).grown0 hg154).grown0 hg187)
      have k200 := ((((k134.grown0 hN148.grw).grown hS151.grw (some_ne (by omega))).grown0 hg154).grown0 hg187)
      exact ⟨ms.length - (k + 1), by omega, (k + 1), rfl, (by omega), (take_all_succ (p := headOk (tabT ms)) hall (tab_at (by omega)) (by unfold headOk; rw [h162, nt_f (gate_i.symm.trans h189)]; rfl)), rfl, e180, e181, e182, e183, e184, hb188, k199, k200⟩
  ·
   have h201 := of_decide_eq_false h135
   refine wpf_exit ?_
   refine thn_e ?_
   refine thn_e ?_
   refine blk_e ?_
   refine thn_n ?_
   refine wpa_seqT ?_
   refine wpa_seq_region ?_
   refine wpo_load1 (v := .slice a ms.length c) ot_54 e129 (k133.cell rfl) rfl ?_
   refine wpo_call (vs := [.slice a ms.length c]) gf_104 (args_cons rfl args_nil) rfl (allRights_c _ ms _ _) ?_
   rintro _ w206 ⟨B202, rfl, hge203, k204, hg205⟩
   have hb207 := low0 hb125 hg205
   have hlB202 := Nat.le_trans hb125.size hge203
   have lt_B101_B202 := Nat.lt_of_lt_of_le (k133).lt hge203
   have lt_B105_B202 := Nat.lt_of_lt_of_le (k134).lt hge203
   refine wpo_nil ?_
   have k208 := (k133.grown0 hg205)
   have k209 := (k134.grown0 hg205)
   refine wpa_gen (fun f' => f' 1 = .pointer (some ⟨B101, 0, none⟩) ∧ f' 2 = .pointer (some ⟨B105, 0, none⟩) ∧ f' 31 = .func (.func 115) #[] #[.pointer (some ⟨B202, 0, none⟩)]) ⟨e129, e130, rfl⟩ ?_
   rintro fT ⟨e1, e2, e3⟩ a0 ha
   obtain ⟨tm, df⟩ := a0
   obtain rfl : df = [] := ha.defers
   have hlb2 : B105 < w206.heap.size := (k209).lt
   refine wpIn_block ?_
   refine wpIn_rangeFunc_ownH (F := Fence.wide) (n := 9) rfl (by omega) (gf := 115) (lb := #[.pointer (some ⟨B202, 0, none⟩)]) (by rw [ha.eval]; exact e3) trivial (enters_of Try.func115 (by kernel_rfl) rfl) (rights_stops 8 w206 B202 ms a c (TabAt.low ht hb207) hlen hn k204) belowK_t (belowK_b (Nat.le_refl _)) (Below.refl _ _) (fun _ => rfl) (fun pre W => w.grownBy W none ∧ Blk W B101 54 #[.slice a ms.length c] ∧ Blk W B105 4 #[.bool false] ∧ pre.all (rightTo (tabT ms)) = true ∧ w206.heap.size ≤ W.heap.size) (fun c pre W => c = .ret ∧ w.grownBy W none ∧ Blk W B105 4 #[.bool false] ∧ pre.all (rightTo (tabT ms)) = false) (fun s A B row hs hg hr => ⟨own_grown hs.1 hg hb207.size hr, own_blk hs.2.1 hg hr, own_blk hs.2.2.1 hg hr, hs.2.2.2.1, Nat.le_trans hs.2.2.2.2 hg.size⟩) (fun c s A B row hs hg hr => ⟨hs.1, own_grown hs.2.1 hg hb207.size hr, own_blk hs.2.2.1 hg hr, hs.2.2.2⟩) ⟨hb207, k208, k209, rfl, Nat.le_refl _⟩ (fun x a' W => ∃ (Bx : Nat) (f' : Fr), Blk W Bx 29 x.cells.toArray ∧ FEq 53 a' f' ∧ f' 5 = .pointer (some ⟨Bx, 0, none⟩) ∧ f' 1 = .pointer (some ⟨B101, 0, none⟩) ∧ f' 2 = .pointer (some ⟨B105, 0, none⟩)) (fun x a' _ A B row hs hg hr => by obtain ⟨Bx, f', h1, h2⟩ := hs; exact ⟨Bx, f', own_blk h1 hg hr, h2⟩) ?assign ?body ?done ?stop
   case assign =>
    intro l pre x W K hi hK
    refine wpIn_mono ((?_ : Wpg (Fence.wide.inRound l) (9 - 1 - 1) Try.prog 53 (fun e f' w' => e = .normal ∧ ∃ Bx : Nat, W.grownBy w' none ∧ Blk w' Bx 29 x.cells.toArray ∧ f' 5 = .pointer (some ⟨Bx, 0, none⟩) ∧ f' 1 = .pointer (some ⟨B101, 0, none⟩) ∧ f' 2 = .pointer (some ⟨B105, 0, none⟩)) _ (up fT 32 (.agg x.cells.toArray)) W) _ (by have hp := ha.put (d := 32) rfl (.agg x.cells.toArray); simpa [Act.put] using hp)) ?_
    ·
     have hlW := hi.2.2.2.2
     refine wpg_region (wd_round l) ?_
     refine wpo_alloc (cs := #[.int .i64 0, .int .i64 0, .bool false, .bool false, .bool false]) zt_29 rfl rfl ?_
     intro B210 w211 hN212
     have hlB210 := hN_ge hN212 hi.1
     have hb213 := low0 hi.1 hN212.grw
     refine wpo_storen (vs := [.int .i64 x.th, .int .i64 x.ve, .bool x.rd, .bool x.wr, .bool x.wk]) (cs' := #[.int .i64 x.th, .int .i64 x.ve, .bool x.rd, .bool x.wr, .bool x.wk]) rt_29 rfl rfl rfl (by simp [Value.oneCell']) hN212.blk (Nat.le_of_ble_eq_true rfl) rfl ?_
     intro w214 hS215
     have hb216 := low1 hb213 hS215.grw (by omega)
     refine wpo_nil ?_
     exact ⟨rfl, B210, (low1 hN212.grw hS215.grw (Nat.le_trans ((World.grownBy.refl _ none)).size (Nat.le_of_eq hN212.eq.symm))), hS215.blk, rfl, e1, e2⟩
    ·
     rintro e a' w' ⟨f', hf', rfl, Bx, hg, hb, h5, h1, h2⟩
     exact hK a' w' (KeepsFrom.of_grownBy hg (fun j e => by cases e)) (below_none hg hi.2.2.2.2) ⟨low0 hi.1 hg, hi.2.1.grown0 hg, hi.2.2.1.grown0 hg, hi.2.2.2.1, Nat.le_trans hi.2.2.2.2 hg.size⟩ ⟨Bx, f', hb, hf', h5, h1, h2⟩
   case body =>
    rintro l pre x a' W hl hr hi ⟨Bx, f', hbx, hf', h5, h1, h2⟩ hlt
    refine wpIn_mono ((?_ : Wpg (Fence.wide.inRound l) (9 - 1 - 1) Try.prog 53 (fun e f'' w' => (e = .normal ∧ W.grownBy w' none ∧ rightTo (tabT ms) x = true) ∨ (e = .ret ∧ W.grownBy w' (some B105) ∧ w.grownBy w' none ∧ Blk w' B105 4 #[.bool false] ∧ rightTo (tabT ms) x = false)) _ f' W) a' hf') ?_
    ·
     refine wpg_block ?_
     refine wpg_seq ?_
     refine wpg_seq_region (wd_round l) ?_
     refine wpo_fieldAddr (o' := 0) fo_29_0 h5 rfl rfl ?_
     refine wpo_load1 (v := .int .i64 x.th) ot_3 rfl (hbx.cell rfl) rfl ?_
     refine wpo_eql (q := decide (x.th = 0)) rfl rfl rfl rfl ?_
     refine wpo_nil ?_
     refine wpg_cond rfl (fun h217 => ?_) (fun h217 => ?_)
     ·
      have h218 := of_decide_eq_true h217
      refine wpg_exit ?_
      refine thn_e ?_
      refine blk_e ?_
      exact Or.inl ⟨rfl, (World.grownBy.refl _ _), rightTo_z h217⟩
     ·
      have h219 := of_decide_eq_false h217
      refine wpg_skip ?_
      refine thn_n ?_
      refine wpg_seq_mid (fun f' w' => (f' 2 = .pointer (some ⟨B105, 0, none⟩) ∧ f' 52 = .bool ((!inR x.th 1 (ms.length : Int)) || (decide ((mAt ms ((x.th - 1).toNat)).t.ve < x.ve)))) ∧ W.grownBy w' none) ?_ ?_
      ·
       rcases bcases (!inR x.th 1 (ms.length : Int)) with h240 | h240
       ·
        have h241 := nt_t h240
        refine wpg_draw (wd_round l) (m := 15) (vals := [(36, .slice a ms.length c), (37, .pointer (some ⟨Bx, 0, none⟩)), (38, .int .i64 x.th), (39, .bool (inR x.th 1 (ms.length : Int))), (40, .bool (!inR x.th 1 (ms.length : Int))), (41, .bool (!inR x.th 1 (ms.length : Int))), (42, undef), (43, undef), (44, undef), (45, undef), (46, undef), (47, undef), (48, undef), (49, undef), (50, undef)]) (fun w' => W.grownBy w' none) mixed_ (by kernel_rfl) (grown_drew _) ?_ ?_
        ·
         refine yll_cons rfl (fun w251 hi252 => ?_) ?_
         ·
          have hb253 := low0 hi.1 hi252
          have k254 := (hi.2.1.grown0 hi252)
          refine wpo_load1 (v := .slice a ms.length c) ot_54 h1 (k254.cell rfl) rfl ?_
          exact wpo_nil ⟨rfl, hi252⟩
         refine yll_cons rfl (fun w255 hi256 => ?_) ?_
         ·
          have hb257 := low0 hi.1 hi256
          refine wpo_fieldAddr (o' := 0) fo_29_0 h5 rfl rfl ?_
          exact wpo_nil ⟨rfl, hi256⟩
         refine yll_cons rfl (fun w258 hi259 => ?_) ?_
         ·
          have hb260 := low0 hi.1 hi259
          have k261 := (hbx.grown0 hi259)
          refine wpo_load1 (v := .int .i64 x.th) ot_3 rfl (k261.cell rfl) rfl ?_
          exact wpo_nil ⟨rfl, hi259⟩
         refine yll_cons rfl (fun w262 hi263 => ?_) ?_
         ·
          have hb264 := low0 hi.1 hi263
          refine wpo_call (vs := [.slice a ms.length c, .int .i64 x.th]) gf_84 (args_cons rfl (args_cons rfl args_nil)) rfl (thingExists_c x.th _ _ _ _) ?_
          rintro _ w265 ⟨rfl, hg266⟩
          have hb267 := low0 hb264 hg266
          exact wpo_nil ⟨rfl, (grown_trans hi263 hg266)⟩
         refine yll_cons rfl (fun w268 hi269 => ?_) ?_
         ·
          have hb270 := low0 hi.1 hi269
          refine wpo_not (b' := !inR x.th 1 (ms.length : Int)) rfl rfl rfl ?_
          exact wpo_nil ⟨rfl, hi269⟩
         refine yll_cons rfl (fun w271 hi272 => ?_) ?_
         ·
          have hb273 := low0 hi.1 hi272
          refine wpo_move (v := .bool (!inR x.th 1 (ms.length : Int))) rfl rfl ?_
          exact wpo_nil ⟨rfl, hi272⟩
         refine yll_cons rfl (fun w274 hi275 => ?_) ?_
         ·
          have hb276 := low0 hi.1 hi275
          refine wpo_pass rfl rfl rfl h240 rfl ?_
          exact wpo_nil ⟨rfl, hi275⟩
         refine yll_cons rfl (fun w277 hi278 => ?_) ?_
         ·
          have hb279 := low0 hi.1 hi278
          refine wpo_pass rfl rfl rfl h240 rfl ?_
          exact wpo_nil ⟨rfl, hi278⟩
         refine yll_cons rfl (fun w280 hi281 => ?_) ?_
         ·
          have hb282 := low0 hi.1 hi281
          refine wpo_pass rfl rfl rfl h240 rfl ?_
          exact wpo_nil ⟨rfl, hi281⟩
         refine yll_cons rfl (fun w283 hi284 => ?_) ?_
         ·
          have hb285 := low0 hi.1 hi284
          refine wpo_pass rfl rfl rfl h240 rfl ?_
          exact wpo_nil ⟨rfl, hi284⟩
         refine yll_cons rfl (fun w286 hi287 => ?_) ?_
         ·
          have hb288 := low0 hi.1 hi287
          refine wpo_pass rfl rfl rfl h240 rfl ?_
          exact wpo_nil ⟨rfl, hi287⟩
         refine yll_cons rfl (fun w289 hi290 => ?_) ?_
         ·
          have hb291 := low0 hi.1 hi290
          refine wpo_pass rfl rfl rfl h240 rfl ?_
          exact wpo_nil ⟨rfl, hi290⟩
         refine yll_cons rfl (fun w292 hi293 => ?_) ?_
         ·
          have hb294 := low0 hi.1 hi293
          refine wpo_pass rfl rfl rfl h240 rfl ?_
          exact wpo_nil ⟨rfl, hi293⟩
         refine yll_cons rfl (fun w295 hi296 => ?_) ?_
         ·
          have hb297 := low0 hi.1 hi296
          refine wpo_pass rfl rfl rfl h240 rfl ?_
          exact wpo_nil ⟨rfl, hi296⟩
         refine yll_cons rfl (fun w298 hi299 => ?_) ?_
         ·
          have hb300 := low0 hi.1 hi299
          refine wpo_pass rfl rfl rfl h240 rfl ?_
          exact wpo_nil ⟨rfl, hi299⟩
         exact yll_nil
        ·
         intro w301 hi302
         have hb303 := low0 hi.1 hi302
         refine wpo_pass rfl rfl rfl h240 rfl ?_
         refine wpo_pickt (v := .bool true) rfl h240 rfl rfl ?_
         exact wpo_nil (thn_n ⟨⟨h2, (congrArg Value.bool (by first | (simp only [h217, h240, h241, b0, b1, b2, b3, b4, b5, b6, b7, b8, b9]; done) | simp [h217, h240, h241]))⟩, hi302⟩)
       ·
        have h304 := nt_f h240
        have hr305 := inR_iff.1 h304
        obtain ⟨b327, q328, o329, ha330, ho331, hr332⟩ := SlAt.at (TabAt.low ht hi.1).1 (map_get (mAt_get (show (x.th - 1).toNat < ms.length by omega)))
        have hle333 := TabLen.at hlen (mAt_get (show (x.th - 1).toNat < ms.length by omega))
        refine wpg_draw (wd_round l) (m := 15) (vals := [(36, .slice a ms.length c), (37, .pointer (some ⟨Bx, 0, none⟩)), (38, .int .i64 x.th), (39, .bool (inR x.th 1 (ms.length : Int))), (40, .bool (!inR x.th 1 (ms.length : Int))), (41, .bool (!inR x.th 1 (ms.length : Int))), (42, .pointer (some ⟨Bx, 1, none⟩)), (43, .int .i64 x.ve), (44, .slice a ms.length c), (45, .pointer (some ⟨Bx, 0, none⟩)), (46, .int .i64 x.th), (47, .int .i64 (x.th - 1)), (48, .pointer (some ⟨b327, o329, none⟩)), (49, .pointer (some ⟨b327, o329 + 3, none⟩)), (50, .int .i64 ((mAt ms ((x.th - 1).toNat)).t.ve))]) (fun w' => W.grownBy w' none) mixed_ (by kernel_rfl) (grown_drew _) ?_ ?_
        ·
         refine yll_cons rfl (fun w339 hi340 => ?_) ?_
         ·
          have hb341 := low0 hi.1 hi340
          have k342 := (hi.2.1.grown0 hi340)
          refine wpo_load1 (v := .slice a ms.length c) ot_54 h1 (k342.cell rfl) rfl ?_
          exact wpo_nil ⟨rfl, hi340⟩
         refine yll_cons rfl (fun w343 hi344 => ?_) ?_
         ·
          have hb345 := low0 hi.1 hi344
          refine wpo_fieldAddr (o' := 0) fo_29_0 h5 rfl rfl ?_
          exact wpo_nil ⟨rfl, hi344⟩
         refine yll_cons rfl (fun w346 hi347 => ?_) ?_
         ·
          have hb348 := low0 hi.1 hi347
          have k349 := (hbx.grown0 hi347)
          refine wpo_load1 (v := .int .i64 x.th) ot_3 rfl (k349.cell rfl) rfl ?_
          exact wpo_nil ⟨rfl, hi347⟩
         refine yll_cons rfl (fun w350 hi351 => ?_) ?_
         ·
          have hb352 := low0 hi.1 hi351
          refine wpo_call (vs := [.slice a ms.length c, .int .i64 x.th]) gf_84 (args_cons rfl (args_cons rfl args_nil)) rfl (thingExists_c x.th _ _ _ _) ?_
          rintro _ w353 ⟨rfl, hg354⟩
          have hb355 := low0 hb352 hg354
          exact wpo_nil ⟨rfl, (grown_trans hi351 hg354)⟩
         refine yll_cons rfl (fun w356 hi357 => ?_) ?_
         ·
          have hb358 := low0 hi.1 hi357
          refine wpo_not (b' := !inR x.th 1 (ms.length : Int)) rfl rfl rfl ?_
          exact wpo_nil ⟨rfl, hi357⟩
         refine yll_cons rfl (fun w359 hi360 => ?_) ?_
         ·
          have hb361 := low0 hi.1 hi360
          refine wpo_move (v := .bool (!inR x.th 1 (ms.length : Int))) rfl rfl ?_
          exact wpo_nil ⟨rfl, hi360⟩
         refine yll_cons rfl (fun w362 hi363 => ?_) ?_
         ·
          have hb364 := low0 hi.1 hi363
          refine wpo_run rfl rfl rfl h240 ?_
          refine wpo_fieldAddr (o' := 1) fo_29_1 h5 rfl rfl ?_
          exact wpo_nil ⟨rfl, hi363⟩
         refine yll_cons rfl (fun w365 hi366 => ?_) ?_
         ·
          have hb367 := low0 hi.1 hi366
          refine wpo_run rfl rfl rfl h240 ?_
          have k368 := (hbx.grown0 hi366)
          refine wpo_load1 (v := .int .i64 x.ve) ot_3 rfl (k368.cell rfl) rfl ?_
          exact wpo_nil ⟨rfl, hi366⟩
         refine yll_cons rfl (fun w369 hi370 => ?_) ?_
         ·
          have hb371 := low0 hi.1 hi370
          refine wpo_run rfl rfl rfl h240 ?_
          have k372 := (hi.2.1.grown0 hi370)
          refine wpo_load1 (v := .slice a ms.length c) ot_54 h1 (k372.cell rfl) rfl ?_
          exact wpo_nil ⟨rfl, hi370⟩
         refine yll_cons rfl (fun w373 hi374 => ?_) ?_
         ·
          have hb375 := low0 hi.1 hi374
          refine wpo_run rfl rfl rfl h240 ?_
          refine wpo_fieldAddr (o' := 0) fo_29_0 h5 rfl rfl ?_
          exact wpo_nil ⟨rfl, hi374⟩
         refine yll_cons rfl (fun w376 hi377 => ?_) ?_
         ·
          have hb378 := low0 hi.1 hi377
          refine wpo_run rfl rfl rfl h240 ?_
          have k379 := (hbx.grown0 hi377)
          refine wpo_load1 (v := .int .i64 x.th) ot_3 rfl (k379.cell rfl) rfl ?_
          exact wpo_nil ⟨rfl, hi377⟩
         refine yll_cons rfl (fun w380 hi381 => ?_) ?_
         ·
          have hb382 := low0 hi.1 hi381
          refine wpo_run rfl rfl rfl h240 ?_
          refine wpo_sub (c := x.th - 1) rfl rfl (by omega) (by omega) (by omega) rfl ?_
          exact wpo_nil ⟨rfl, hi381⟩
         refine yll_cons rfl (fun w383 hi384 => ?_) ?_
         ·
          have hb385 := low0 hi.1 hi384
          refine wpo_run rfl rfl rfl h240 ?_
          refine wpo_indexE es_54 rfl rfl ha330 ho331 (by omega) (by omega) rfl ?_
          exact wpo_nil ⟨rfl, hi384⟩
         refine yll_cons rfl (fun w386 hi387 => ?_) ?_
         ·
          have hb388 := low0 hi.1 hi387
          refine wpo_run rfl rfl rfl h240 ?_
          refine wpo_fieldAddr (o' := o329 + 3) fo_45_2 rfl rfl rfl ?_
          exact wpo_nil ⟨rfl, hi387⟩
         refine yll_cons rfl (fun w389 hi390 => ?_) ?_
         ·
          have hb391 := low0 hi.1 hi390
          refine wpo_run rfl rfl rfl h240 ?_
          refine wpo_load1 (v := .int .i64 ((mAt ms ((x.th - 1).toNat)).t.ve)) ot_3 rfl ((range_low hr332 hi390) 3 _ rfl) rfl ?_
          exact wpo_nil ⟨rfl, hi390⟩
         exact yll_nil
        ·
         intro w392 hi393
         have hb394 := low0 hi.1 hi393
         refine wpo_run rfl rfl rfl h240 ?_
         refine wpo_gtr (q := decide ((mAt ms ((x.th - 1).toNat)).t.ve < x.ve)) rfl rfl rfl rfl ?_
         refine wpo_pickf (v := .bool (decide ((mAt ms ((x.th - 1).toNat)).t.ve < x.ve))) rfl h240 rfl rfl ?_
         exact wpo_nil (thn_n ⟨⟨h2, (congrArg Value.bool (by first | (simp only [h217, h240, h304, b0, b1, b2, b3, b4, b5, b6, b7, b8, b9]; done) | simp [h217, h240, h304]))⟩, hi393⟩)
      ·
       rintro f395 w396 ⟨⟨e397, e398⟩, hg399⟩
       have hb400 := low0 hi.1 hg399
       refine wpg_cond e398 (fun h401 => ?_) (fun h401 => ?_)
       ·
        refine wpg_seq_region (wd_round l) ?_
        have k402 := (hi.2.2.1.grown0 hg399)
        refine wpo_store1 (v := .bool false) (cs' := #[.bool false]) ot_4 e397 rfl rfl k402 (Nat.le_of_ble_eq_true rfl) rfl ?_
        intro w403 hS404
        have hb405 := low1 hb400 hS404.grw (by omega)
        refine wpo_nil ?_
        refine wpg_ret ?_
        refine blk_r ?_
        exact Or.inr ⟨rfl, (grown_trans (grown_weak hg399) hS404.grw), hb405, hS404.blk, nt_t ((rightTo_i h217).symm.trans h401)⟩
       ·
        have h406 := or_l h401
        have h407 := nt_f h406
        have hr408 := inR_iff.1 h407
        have h409 := or_r h401
        have h410 := of_decide_eq_false h409
        refine wpg_skip ?_
        refine blk_n ?_
        exact Or.inl ⟨rfl, hg399, nt_f ((rightTo_i h217).symm.trans h401)⟩
    ·
     rintro e a2 w2 ⟨f2, hf2, (⟨rfl, hg, hx⟩ | ⟨rfl, hg, hg0, hb, hx⟩)⟩
     ·
      exact ⟨KeepsFrom.of_grownBy hg (fun j e => by cases e), below_none hg hi.2.2.2.2, low0 hi.1 hg, hi.2.1.grown0 hg, hi.2.2.1.grown0 hg, by rw [List.all_append, hi.2.2.2.1]; simp [hx], Nat.le_trans hi.2.2.2.2 hg.size⟩
     ·
      exact ⟨KeepsFrom.of_grownBy hg (fun j e => by cases e; exact hlb2), rfl, hg0, hb, by rw [List.all_append]; simp [hx]⟩
   case done =>
    intro D xs W hD hS hi hK
    subst hS
    have hDB : D ≠ B105 := by omega
    have hDl : D < W.heap.size := (Array.getElem?_eq_some_iff.1 hK).1
    have hsb := setB_setRow hi.2.2.1 #[.bool true]
    refine wpIn_seq ?_
    refine region1_unit wd_wide (fun c h => by cases h) rfl (w' := W.setRow B105 #[.bool true]) ?_ rfl ?_
    ·
     have he : Act.eval { tmps := tm, defers := [{ target := .collected D, args := #[] }] } = ev fT := ha.eval
     rw [he]
     have hst := run_store1 (w := W) (v := .bool true) (o := 0) ot_4 rfl hi.2.2.1 (by simp)
     simp [execOp, show ev fT (.tmp 2) = _ from e2, show ev fT (.const (.bool true)) = .bool true from rfl, hst]
    ·
     refine wpIn_ret ?_
     have hK' : (W.setRow B105 #[.bool true]).heap[D]? = some (.deferred (some [])) := (hsb.grw.block D hDl (fun e => hDB (Option.some.inj e))).trans hK
     have hgp := grownBy_putObj' (W.setRow B105 #[.bool true]) D (.deferred none)
     have hb2 := hsb.blk.grown hgp (some_ne (Ne.symm hDB))
     refine endD (v := .bool true) (a := { tmps := tm, defers := [] }) ha hK' (resC rfl (resCell_mk1 ot_4 e2 (hb2.cell rfl))) ⟨?_, ?_⟩
     ·
      rw [tabi_yes h119 hall (by omega), hi.2.2.2.1]
     ·
      exact low1 (low1 hi.1 hsb.grw (by omega)) hgp (Nat.le_trans hb207.size hD)
   case stop =>
    intro D c pre W hD hSp hx hK
    obtain ⟨rfl, hg, hb, hf⟩ := hx
    have hDB : D ≠ B105 := by omega
    have hgp := grownBy_putObj' W D (.deferred none)
    have hb2 := hb.grown hgp (some_ne (Ne.symm hDB))
    refine wpIn_ret ?_
    refine endD (v := .bool false) (a := { tmps := tm, defers := [] }) ha hK (resC rfl (resCell_mk1 ot_4 e2 (hb2.cell rfl))) ⟨?_, ?_⟩
    ·
     rw [tabi_yes h119 hall (by omega), all_prefix hSp hf]
    ·
     exact low1 hg hgp (Nat.le_trans hb207.size hD)
theorem gf_34 : goFn Try.prog 34 = true := by kernel_rfl
theorem gf_36 : goFn Try.prog 36 = true := by kernel_rfl
theorem gf_83 : goFn Try.prog 83 = true := by kernel_rfl
theorem gf_86 : goFn Try.prog 86 = true := by kernel_rfl
theorem ViewHigh_c (k : Int) (l : Lab) (hk : -9223372036854775808 ≤ k ∧ k ≤ 9223372036854775807) (w : World) (ms : List MTh) (a : Option Addr) (c : Nat) (ht : TabAt w a ms) (hlen : TabLen ms) (hn : ms.length ≤ 1048576) : CallsR Try.prog 32 #[.slice a ms.length c, .int .i64 k, .agg #[.int .i64 l.s, .int .i64 l.v]] w (fun v w' => v = .bool (viewHigh (tabT ms) k l) ∧ w.grownBy w' none) := by
 refine calls_of_wpf (n := 29) Try.func32 rfl Try.ntmps32 rfl ?_
 have hb0 := World.grownBy.refl w none
 refine wpf_seq_region ?_
 refine wpo_box (v := .agg #[.int .i64 l.s, .int .i64 l.v]) (cs := #[.int .i64 l.s, .int .i64 l.v]) rfl rfl rfl ?_
 intro B101 w102 hN103
 have hlB101 := hN_ge hN103 hb0
 have hb104 := low0 hb0 hN103.grw
 refine wpo_assign (v := .bool false) rfl rfl ?_
 refine wpo_nil ?_
 refine wpf_seq_mid (fun f' w' => (f' 6 = .bool (((tableOk (tabT ms) && labelOk l) && inR k 1 (ms.length : Int)) && (!labelFlow ((mAt ms ((k - 1).toNat)).t.lab) l))) ∧ w102.grownBy w' none) ?_ ?_
 ·
  rcases bcases (tableOk (tabT ms)) with h134 | h134
  ·
   rcases bcases (labelOk l) with h142 | h142
   ·
    rcases bcases (inR k 1 (ms.length : Int)) with h153 | h153
    ·
     have hr154 := inR_iff.1 h153
     obtain ⟨b190, q191, o192, ha193, ho194, hr195⟩ := SlAt.at (TabAt.low ht hb104).1 (map_get (mAt_get (show (k - 1).toNat < ms.length by omega)))
     have hle196 := TabLen.at hlen (mAt_get (show (k - 1).toNat < ms.length by omega))
     refine wpf_draw (m := 19) (vals := [(7, .slice a ms.length c), (8, .bool (tableOk (tabT ms))), (9, .bool (tableOk (tabT ms))), (10, .agg #[.int .i64 l.s, .int .i64 l.v]), (11, .bool (labelOk l)), (12, .bool (labelOk l)), (13, .bool (labelOk l)), (14, .slice a ms.length c), (15, .int .i64 k), (16, .bool (inR k 1 (ms.length : Int))), (17, .bool (inR k 1 (ms.length : Int))), (18, .bool (inR k 1 (ms.length : Int))), (19, .slice a ms.length c), (20, .int .i64 k), (21, .int .i64 (k - 1)), (22, .pointer (some ⟨b190, o192, none⟩)), (23, .pointer (some ⟨b190, o192 + 1, none⟩)), (24, .agg #[.int .i64 ((mAt ms ((k - 1).toNat)).t.lab.s), .int .i64 ((mAt ms ((k - 1).toNat)).t.lab.v)]), (25, .agg #[.int .i64 l.s, .int .i64 l.v])]) (fun w' => w102.grownBy w' none) mixed_ (by kernel_rfl) (grown_drew _) ?_ ?_
     ·
      refine yll_cons rfl (fun w212 hi213 => ?_) ?_
      ·
       have hb214 := low0 hb104 hi213
       refine wpo_move (v := .slice a ms.length c) rfl rfl ?_
       exact wpo_nil ⟨rfl, hi213⟩
      refine yll_cons rfl (fun w215 hi216 => ?_) ?_
      ·
       have hb217 := low0 hb104 hi216
       refine wpo_call (vs := [.slice a ms.length c]) gf_83 (args_cons rfl args_nil) rfl (TableOk_c  _ ms _ _ (TabAt.low ht hb217) hlen (by omega)) ?_
       rintro _ w218 ⟨rfl, hg219⟩
       have hb220 := low0 hb217 hg219
       exact wpo_nil ⟨rfl, (grown_trans hi216 hg219)⟩
      refine yll_cons rfl (fun w221 hi222 => ?_) ?_
      ·
       have hb223 := low0 hb104 hi222
       refine wpo_move (v := .bool (tableOk (tabT ms))) rfl rfl ?_
       exact wpo_nil ⟨rfl, hi222⟩
      refine yll_cons rfl (fun w224 hi225 => ?_) ?_
      ·
       have hb226 := low0 hb104 hi225
       refine wpo_run rfl rfl rfl h134 ?_
       have k227 := (hN103.blk.grown0 hi225)
       refine wpo_loadn (vs := [.int .i64 l.s, .int .i64 l.v]) rt_40 rfl rfl (k227.rangeL 0 2 rfl) rfl ?_
       exact wpo_nil ⟨rfl, hi225⟩
      refine yll_cons rfl (fun w228 hi229 => ?_) ?_
      ·
       have hb230 := low0 hb104 hi229
       refine wpo_run rfl rfl rfl h134 ?_
       refine wpo_call (vs := [.agg #[.int .i64 l.s, .int .i64 l.v]]) gf_70 (args_cons rfl args_nil) rfl (LabelOk_c l _) ?_
       rintro _ w231 ⟨rfl, hg232⟩
       have hb233 := low0 hb230 hg232
       exact wpo_nil ⟨rfl, (grown_trans hi229 hg232)⟩
      refine yll_cons rfl (fun w234 hi235 => ?_) ?_
      ·
       have hb236 := low0 hb104 hi235
       refine wpo_pickt (v := .bool (labelOk l)) rfl h134 rfl rfl ?_
       exact wpo_nil ⟨rfl, hi235⟩
      refine yll_cons rfl (fun w237 hi238 => ?_) ?_
      ·
       have hb239 := low0 hb104 hi238
       refine wpo_move (v := .bool (labelOk l)) rfl rfl ?_
       exact wpo_nil ⟨rfl, hi238⟩
      refine yll_cons rfl (fun w240 hi241 => ?_) ?_
      ·
       have hb242 := low0 hb104 hi241
       refine wpo_run rfl rfl rfl h142 ?_
       refine wpo_move (v := .slice a ms.length c) rfl rfl ?_
       exact wpo_nil ⟨rfl, hi241⟩
      refine yll_cons rfl (fun w243 hi244 => ?_) ?_
      ·
       have hb245 := low0 hb104 hi244
       refine wpo_run rfl rfl rfl h142 ?_
       refine wpo_move (v := .int .i64 k) rfl rfl ?_
       exact wpo_nil ⟨rfl, hi244⟩
      refine yll_cons rfl (fun w246 hi247 => ?_) ?_
      ·
       have hb248 := low0 hb104 hi247
       refine wpo_run rfl rfl rfl h142 ?_
       refine wpo_call (vs := [.slice a ms.length c, .int .i64 k]) gf_84 (args_cons rfl (args_cons rfl args_nil)) rfl (thingExists_c k _ _ _ _) ?_
       rintro _ w249 ⟨rfl, hg250⟩
       have hb251 := low0 hb248 hg250
       exact wpo_nil ⟨rfl, (grown_trans hi247 hg250)⟩
      refine yll_cons rfl (fun w252 hi253 => ?_) ?_
      ·
       have hb254 := low0 hb104 hi253
       refine wpo_pickt (v := .bool (inR k 1 (ms.length : Int))) rfl h142 rfl rfl ?_
       exact wpo_nil ⟨rfl, hi253⟩
      refine yll_cons rfl (fun w255 hi256 => ?_) ?_
      ·
       have hb257 := low0 hb104 hi256
       refine wpo_move (v := .bool (inR k 1 (ms.length : Int))) rfl rfl ?_
       exact wpo_nil ⟨rfl, hi256⟩
      refine yll_cons rfl (fun w258 hi259 => ?_) ?_
      ·
       have hb260 := low0 hb104 hi259
       refine wpo_run rfl rfl rfl h153 ?_
       refine wpo_move (v := .slice a ms.length c) rfl rfl ?_
       exact wpo_nil ⟨rfl, hi259⟩
      refine yll_cons rfl (fun w261 hi262 => ?_) ?_
      ·
       have hb263 := low0 hb104 hi262
       refine wpo_run rfl rfl rfl h153 ?_
       refine wpo_move (v := .int .i64 k) rfl rfl ?_
       exact wpo_nil ⟨rfl, hi262⟩
      refine yll_cons rfl (fun w264 hi265 => ?_) ?_
      ·
       have hb266 := low0 hb104 hi265
       refine wpo_run rfl rfl rfl h153 ?_
       refine wpo_sub (c := k - 1) rfl rfl (by omega) (by omega) (by omega) rfl ?_
       exact wpo_nil ⟨rfl, hi265⟩
      refine yll_cons rfl (fun w267 hi268 => ?_) ?_
      ·
       have hb269 := low0 hb104 hi268
       refine wpo_run rfl rfl rfl h153 ?_
       refine wpo_indexE es_54 rfl rfl ha193 ho194 (by omega) (by omega) rfl ?_
       exact wpo_nil ⟨rfl, hi268⟩
      refine yll_cons rfl (fun w270 hi271 => ?_) ?_
      ·
       have hb272 := low0 hb104 hi271
       refine wpo_run rfl rfl rfl h153 ?_
       refine wpo_fieldAddr (o' := o192 + 1) fo_45_1 rfl rfl rfl ?_
       exact wpo_nil ⟨rfl, hi271⟩
      refine yll_cons rfl (fun w273 hi274 => ?_) ?_
      ·
       have hb275 := low0 hb104 hi274
       refine wpo_run rfl rfl rfl h153 ?_
       refine wpo_loadn (vs := [.int .i64 ((mAt ms ((k - 1).toNat)).t.lab.s), .int .i64 ((mAt ms ((k - 1).toNat)).t.lab.v)]) rt_40 rfl rfl (range_sub (range_low hr195 hi274) 1 2 rfl) rfl ?_
       exact wpo_nil ⟨rfl, hi274⟩
      refine yll_cons rfl (fun w276 hi277 => ?_) ?_
      ·
       have hb278 := low0 hb104 hi277
       refine wpo_run rfl rfl rfl h153 ?_
       have k279 := (hN103.blk.grown0 hi277)
       refine wpo_loadn (vs := [.int .i64 l.s, .int .i64 l.v]) rt_40 rfl rfl (k279.rangeL 0 2 rfl) rfl ?_
       exact wpo_nil ⟨rfl, hi277⟩
      exact yll_nil
     ·
      intro w280 hi281
      have hb282 := low0 hb104 hi281
      refine wpo_run rfl rfl rfl h153 ?_
      refine wpo_call (vs := [.agg #[.int .i64 ((mAt ms ((k - 1).toNat)).t.lab.s), .int .i64 ((mAt ms ((k - 1).toNat)).t.lab.v)], .agg #[.int .i64 l.s, .int .i64 l.v]]) gf_36 (args_cons rfl (args_cons rfl args_nil)) rfl (LabelFlow_c ((mAt ms ((k - 1).toNat)).t.lab) l _) ?_
      rintro _ w283 ⟨rfl, hg284⟩
      have hb285 := low0 hb282 hg284
      refine wpo_run rfl rfl rfl h153 ?_
      refine wpo_not (b' := !labelFlow ((mAt ms ((k - 1).toNat)).t.lab) l) rfl rfl rfl ?_
      refine wpo_pickt (v := .bool (!labelFlow ((mAt ms ((k - 1).toNat)).t.lab) l)) rfl h153 rfl rfl ?_
      refine wpo_assign (v := .bool (!labelFlow ((mAt ms ((k - 1).toNat)).t.lab) l)) rfl rfl ?_
      exact wpo_nil (thn_n ⟨(congrArg Value.bool (by first | (simp only [h134, h142, h153, b0, b1, b2, b3, b4, b5, b6, b7, b8, b9]; done) | simp [h134, h142, h153])), (grown_trans hi281 hg284)⟩)
    ·
     refine wpf_draw (m := 19) (vals := [(7, .slice a ms.length c), (8, .bool (tableOk (tabT ms))), (9, .bool (tableOk (tabT ms))), (10, .agg #[.int .i64 l.s, .int .i64 l.v]), (11, .bool (labelOk l)), (12, .bool (labelOk l)), (13, .bool (labelOk l)), (14, .slice a ms.length c), (15, .int .i64 k), (16, .bool (inR k 1 (ms.length : Int))), (17, .bool (inR k 1 (ms.length : Int))), (18, .bool (inR k 1 (ms.length : Int))), (19, undef), (20, undef), (21, undef), (22, undef), (23, undef), (24, undef), (25, undef)]) (fun w' => w102.grownBy w' none) mixed_ (by kernel_rfl) (grown_drew _) ?_ ?_
     ·
      refine yll_cons rfl (fun w316 hi317 => ?_) ?_
      ·
       have hb318 := low0 hb104 hi317
       refine wpo_move (v := .slice a ms.length c) rfl rfl ?_
       exact wpo_nil ⟨rfl, hi317⟩
      refine yll_cons rfl (fun w319 hi320 => ?_) ?_
      ·
       have hb321 := low0 hb104 hi320
       refine wpo_call (vs := [.slice a ms.length c]) gf_83 (args_cons rfl args_nil) rfl (TableOk_c  _ ms _ _ (TabAt.low ht hb321) hlen (by omega)) ?_
       rintro _ w322 ⟨rfl, hg323⟩
       have hb324 := low0 hb321 hg323
       exact wpo_nil ⟨rfl, (grown_trans hi320 hg323)⟩
      refine yll_cons rfl (fun w325 hi326 => ?_) ?_
      ·
       have hb327 := low0 hb104 hi326
       refine wpo_move (v := .bool (tableOk (tabT ms))) rfl rfl ?_
       exact wpo_nil ⟨rfl, hi326⟩
      refine yll_cons rfl (fun w328 hi329 => ?_) ?_
      ·
       have hb330 := low0 hb104 hi329
       refine wpo_run rfl rfl rfl h134 ?_
       have k331 := (hN103.blk.grown0 hi329)
       refine wpo_loadn (vs := [.int .i64 l.s, .int .i64 l.v]) rt_40 rfl rfl (k331.rangeL 0 2 rfl) rfl ?_
       exact wpo_nil ⟨rfl, hi329⟩
      refine yll_cons rfl (fun w332 hi333 => ?_) ?_
      ·
       have hb334 := low0 hb104 hi333
       refine wpo_run rfl rfl rfl h134 ?_
       refine wpo_call (vs := [.agg #[.int .i64 l.s, .int .i64 l.v]]) gf_70 (args_cons rfl args_nil) rfl (LabelOk_c l _) ?_
       rintro _ w335 ⟨rfl, hg336⟩
       have hb337 := low0 hb334 hg336
       exact wpo_nil ⟨rfl, (grown_trans hi333 hg336)⟩
      refine yll_cons rfl (fun w338 hi339 => ?_) ?_
      ·
       have hb340 := low0 hb104 hi339
       refine wpo_pickt (v := .bool (labelOk l)) rfl h134 rfl rfl ?_
       exact wpo_nil ⟨rfl, hi339⟩
      refine yll_cons rfl (fun w341 hi342 => ?_) ?_
      ·
       have hb343 := low0 hb104 hi342
       refine wpo_move (v := .bool (labelOk l)) rfl rfl ?_
       exact wpo_nil ⟨rfl, hi342⟩
      refine yll_cons rfl (fun w344 hi345 => ?_) ?_
      ·
       have hb346 := low0 hb104 hi345
       refine wpo_run rfl rfl rfl h142 ?_
       refine wpo_move (v := .slice a ms.length c) rfl rfl ?_
       exact wpo_nil ⟨rfl, hi345⟩
      refine yll_cons rfl (fun w347 hi348 => ?_) ?_
      ·
       have hb349 := low0 hb104 hi348
       refine wpo_run rfl rfl rfl h142 ?_
       refine wpo_move (v := .int .i64 k) rfl rfl ?_
       exact wpo_nil ⟨rfl, hi348⟩
      refine yll_cons rfl (fun w350 hi351 => ?_) ?_
      ·
       have hb352 := low0 hb104 hi351
       refine wpo_run rfl rfl rfl h142 ?_
       refine wpo_call (vs := [.slice a ms.length c, .int .i64 k]) gf_84 (args_cons rfl (args_cons rfl args_nil)) rfl (thingExists_c k _ _ _ _) ?_
       rintro _ w353 ⟨rfl, hg354⟩
       have hb355 := low0 hb352 hg354
       exact wpo_nil ⟨rfl, (grown_trans hi351 hg354)⟩
      refine yll_cons rfl (fun w356 hi357 => ?_) ?_
      ·
       have hb358 := low0 hb104 hi357
       refine wpo_pickt (v := .bool (inR k 1 (ms.length : Int))) rfl h142 rfl rfl ?_
       exact wpo_nil ⟨rfl, hi357⟩
      refine yll_cons rfl (fun w359 hi360 => ?_) ?_
      ·
       have hb361 := low0 hb104 hi360
       refine wpo_move (v := .bool (inR k 1 (ms.length : Int))) rfl rfl ?_
       exact wpo_nil ⟨rfl, hi360⟩
      refine yll_cons rfl (fun w362 hi363 => ?_) ?_
      ·
       have hb364 := low0 hb104 hi363
       refine wpo_pass rfl rfl rfl h153 rfl ?_
       exact wpo_nil ⟨rfl, hi363⟩
      refine yll_cons rfl (fun w365 hi366 => ?_) ?_
      ·
       have hb367 := low0 hb104 hi366
       refine wpo_pass rfl rfl rfl h153 rfl ?_
       exact wpo_nil ⟨rfl, hi366⟩
      refine yll_cons rfl (fun w368 hi369 => ?_) ?_
      ·
       have hb370 := low0 hb104 hi369
       refine wpo_pass rfl rfl rfl h153 rfl ?_
       exact wpo_nil ⟨rfl, hi369⟩
      refine yll_cons rfl (fun w371 hi372 => ?_) ?_
      ·
       have hb373 := low0 hb104 hi372
       refine wpo_pass rfl rfl rfl h153 rfl ?_
       exact wpo_nil ⟨rfl, hi372⟩
      refine yll_cons rfl (fun w374 hi375 => ?_) ?_
      ·
       have hb376 := low0 hb104 hi375
       refine wpo_pass rfl rfl rfl h153 rfl ?_
       exact wpo_nil ⟨rfl, hi375⟩
      refine yll_cons rfl (fun w377 hi378 => ?_) ?_
      ·
       have hb379 := low0 hb104 hi378
       refine wpo_pass rfl rfl rfl h153 rfl ?_
       exact wpo_nil ⟨rfl, hi378⟩
      refine yll_cons rfl (fun w380 hi381 => ?_) ?_
      ·
       have hb382 := low0 hb104 hi381
       refine wpo_pass rfl rfl rfl h153 rfl ?_
       exact wpo_nil ⟨rfl, hi381⟩
      exact yll_nil
     ·
      intro w383 hi384
      have hb385 := low0 hb104 hi384
      refine wpo_pass rfl rfl rfl h153 rfl ?_
      refine wpo_pass rfl rfl rfl h153 rfl ?_
      refine wpo_pickf (v := .bool false) rfl h153 rfl rfl ?_
      refine wpo_assign (v := .bool false) rfl rfl ?_
      exact wpo_nil (thn_n ⟨(congrArg Value.bool (by first | (simp only [h134, h142, h153, b0, b1, b2, b3, b4, b5, b6, b7, b8, b9]; done) | simp [h134, h142, h153])), hi384⟩)
   ·
    refine wpf_draw (m := 19) (vals := [(7, .slice a ms.length c), (8, .bool (tableOk (tabT ms))), (9, .bool (tableOk (tabT ms))), (10, .agg #[.int .i64 l.s, .int .i64 l.v]), (11, .bool (labelOk l)), (12, .bool (labelOk l)), (13, .bool (labelOk l)), (14, undef), (15, undef), (16, undef), (17, .bool false), (18, .bool false), (19, undef), (20, undef), (21, undef), (22, undef), (23, undef), (24, undef), (25, undef)]) (fun w' => w102.grownBy w' none) mixed_ (by kernel_rfl) (grown_drew _) ?_ ?_
    ·
     refine yll_cons rfl (fun w407 hi408 => ?_) ?_
     ·
      have hb409 := low0 hb104 hi408
      refine wpo_move (v := .slice a ms.length c) rfl rfl ?_
      exact wpo_nil ⟨rfl, hi408⟩
     refine yll_cons rfl (fun w410 hi411 => ?_) ?_
     ·
      have hb412 := low0 hb104 hi411
      refine wpo_call (vs := [.slice a ms.length c]) gf_83 (args_cons rfl args_nil) rfl (TableOk_c  _ ms _ _ (TabAt.low ht hb412) hlen (by omega)) ?_
      rintro _ w413 ⟨rfl, hg414⟩
      have hb415 := low0 hb412 hg414
      exact wpo_nil ⟨rfl, (grown_trans hi411 hg414)⟩
     refine yll_cons rfl (fun w416 hi417 => ?_) ?_
     ·
      have hb418 := low0 hb104 hi417
      refine wpo_move (v := .bool (tableOk (tabT ms))) rfl rfl ?_
      exact wpo_nil ⟨rfl, hi417⟩
     refine yll_cons rfl (fun w419 hi420 => ?_) ?_
     ·
      have hb421 := low0 hb104 hi420
      refine wpo_run rfl rfl rfl h134 ?_
      have k422 := (hN103.blk.grown0 hi420)
      refine wpo_loadn (vs := [.int .i64 l.s, .int .i64 l.v]) rt_40 rfl rfl (k422.rangeL 0 2 rfl) rfl ?_
      exact wpo_nil ⟨rfl, hi420⟩
     refine yll_cons rfl (fun w423 hi424 => ?_) ?_
     ·
      have hb425 := low0 hb104 hi424
      refine wpo_run rfl rfl rfl h134 ?_
      refine wpo_call (vs := [.agg #[.int .i64 l.s, .int .i64 l.v]]) gf_70 (args_cons rfl args_nil) rfl (LabelOk_c l _) ?_
      rintro _ w426 ⟨rfl, hg427⟩
      have hb428 := low0 hb425 hg427
      exact wpo_nil ⟨rfl, (grown_trans hi424 hg427)⟩
     refine yll_cons rfl (fun w429 hi430 => ?_) ?_
     ·
      have hb431 := low0 hb104 hi430
      refine wpo_pickt (v := .bool (labelOk l)) rfl h134 rfl rfl ?_
      exact wpo_nil ⟨rfl, hi430⟩
     refine yll_cons rfl (fun w432 hi433 => ?_) ?_
     ·
      have hb434 := low0 hb104 hi433
      refine wpo_move (v := .bool (labelOk l)) rfl rfl ?_
      exact wpo_nil ⟨rfl, hi433⟩
     refine yll_cons rfl (fun w435 hi436 => ?_) ?_
     ·
      have hb437 := low0 hb104 hi436
      refine wpo_pass rfl rfl rfl h142 rfl ?_
      exact wpo_nil ⟨rfl, hi436⟩
     refine yll_cons rfl (fun w438 hi439 => ?_) ?_
     ·
      have hb440 := low0 hb104 hi439
      refine wpo_pass rfl rfl rfl h142 rfl ?_
      exact wpo_nil ⟨rfl, hi439⟩
     refine yll_cons rfl (fun w441 hi442 => ?_) ?_
     ·
      have hb443 := low0 hb104 hi442
      refine wpo_pass rfl rfl rfl h142 rfl ?_
      exact wpo_nil ⟨rfl, hi442⟩
     refine yll_cons rfl (fun w444 hi445 => ?_) ?_
     ·
      have hb446 := low0 hb104 hi445
      refine wpo_pickf (v := .bool false) rfl h142 rfl rfl ?_
      exact wpo_nil ⟨rfl, hi445⟩
     refine yll_cons rfl (fun w447 hi448 => ?_) ?_
     ·
      have hb449 := low0 hb104 hi448
      refine wpo_move (v := .bool false) rfl rfl ?_
      exact wpo_nil ⟨rfl, hi448⟩
     refine yll_cons rfl (fun w450 hi451 => ?_) ?_
     ·
      have hb452 := low0 hb104 hi451
      refine wpo_pass rfl rfl rfl rfl rfl ?_
      exact wpo_nil ⟨rfl, hi451⟩
     refine yll_cons rfl (fun w453 hi454 => ?_) ?_
     ·
      have hb455 := low0 hb104 hi454
      refine wpo_pass rfl rfl rfl rfl rfl ?_
      exact wpo_nil ⟨rfl, hi454⟩
     refine yll_cons rfl (fun w456 hi457 => ?_) ?_
     ·
      have hb458 := low0 hb104 hi457
      refine wpo_pass rfl rfl rfl rfl rfl ?_
      exact wpo_nil ⟨rfl, hi457⟩
     refine yll_cons rfl (fun w459 hi460 => ?_) ?_
     ·
      have hb461 := low0 hb104 hi460
      refine wpo_pass rfl rfl rfl rfl rfl ?_
      exact wpo_nil ⟨rfl, hi460⟩
     refine yll_cons rfl (fun w462 hi463 => ?_) ?_
     ·
      have hb464 := low0 hb104 hi463
      refine wpo_pass rfl rfl rfl rfl rfl ?_
      exact wpo_nil ⟨rfl, hi463⟩
     refine yll_cons rfl (fun w465 hi466 => ?_) ?_
     ·
      have hb467 := low0 hb104 hi466
      refine wpo_pass rfl rfl rfl rfl rfl ?_
      exact wpo_nil ⟨rfl, hi466⟩
     refine yll_cons rfl (fun w468 hi469 => ?_) ?_
     ·
      have hb470 := low0 hb104 hi469
      refine wpo_pass rfl rfl rfl rfl rfl ?_
      exact wpo_nil ⟨rfl, hi469⟩
     exact yll_nil
    ·
     intro w471 hi472
     have hb473 := low0 hb104 hi472
     refine wpo_pass rfl rfl rfl rfl rfl ?_
     refine wpo_pass rfl rfl rfl rfl rfl ?_
     refine wpo_pickf (v := .bool false) rfl rfl rfl rfl ?_
     refine wpo_assign (v := .bool false) rfl rfl ?_
     exact wpo_nil (thn_n ⟨(congrArg Value.bool (by first | (simp only [h134, h142, b0, b1, b2, b3, b4, b5, b6, b7, b8, b9]; done) | simp [h134, h142])), hi472⟩)
  ·
   refine wpf_draw (m := 19) (vals := [(7, .slice a ms.length c), (8, .bool (tableOk (tabT ms))), (9, .bool (tableOk (tabT ms))), (10, undef), (11, undef), (12, .bool false), (13, .bool false), (14, undef), (15, undef), (16, undef), (17, .bool false), (18, .bool false), (19, undef), (20, undef), (21, undef), (22, undef), (23, undef), (24, undef), (25, undef)]) (fun w' => w102.grownBy w' none) mixed_ (by kernel_rfl) (grown_drew _) ?_ ?_
   ·
    refine yll_cons rfl (fun w483 hi484 => ?_) ?_
    ·
     have hb485 := low0 hb104 hi484
     refine wpo_move (v := .slice a ms.length c) rfl rfl ?_
     exact wpo_nil ⟨rfl, hi484⟩
    refine yll_cons rfl (fun w486 hi487 => ?_) ?_
    ·
     have hb488 := low0 hb104 hi487
     refine wpo_call (vs := [.slice a ms.length c]) gf_83 (args_cons rfl args_nil) rfl (TableOk_c  _ ms _ _ (TabAt.low ht hb488) hlen (by omega)) ?_
     rintro _ w489 ⟨rfl, hg490⟩
     have hb491 := low0 hb488 hg490
     exact wpo_nil ⟨rfl, (grown_trans hi487 hg490)⟩
    refine yll_cons rfl (fun w492 hi493 => ?_) ?_
    ·
     have hb494 := low0 hb104 hi493
     refine wpo_move (v := .bool (tableOk (tabT ms))) rfl rfl ?_
     exact wpo_nil ⟨rfl, hi493⟩
    refine yll_cons rfl (fun w495 hi496 => ?_) ?_
    ·
     have hb497 := low0 hb104 hi496
     refine wpo_pass rfl rfl rfl h134 rfl ?_
     exact wpo_nil ⟨rfl, hi496⟩
    refine yll_cons rfl (fun w498 hi499 => ?_) ?_
    ·
     have hb500 := low0 hb104 hi499
     refine wpo_pass rfl rfl rfl h134 rfl ?_
     exact wpo_nil ⟨rfl, hi499⟩
    refine yll_cons rfl (fun w501 hi502 => ?_) ?_
    ·
     have hb503 := low0 hb104 hi502
     refine wpo_pickf (v := .bool false) rfl h134 rfl rfl ?_
     exact wpo_nil ⟨rfl, hi502⟩
    refine yll_cons rfl (fun w504 hi505 => ?_) ?_
    ·
     have hb506 := low0 hb104 hi505
     refine wpo_move (v := .bool false) rfl rfl ?_
     exact wpo_nil ⟨rfl, hi505⟩
    refine yll_cons rfl (fun w507 hi508 => ?_) ?_
    ·
     have hb509 := low0 hb104 hi508
     refine wpo_pass rfl rfl rfl rfl rfl ?_
     exact wpo_nil ⟨rfl, hi508⟩
    refine yll_cons rfl (fun w510 hi511 => ?_) ?_
    ·
     have hb512 := low0 hb104 hi511
     refine wpo_pass rfl rfl rfl rfl rfl ?_
     exact wpo_nil ⟨rfl, hi511⟩
    refine yll_cons rfl (fun w513 hi514 => ?_) ?_
    ·
     have hb515 := low0 hb104 hi514
     refine wpo_pass rfl rfl rfl rfl rfl ?_
     exact wpo_nil ⟨rfl, hi514⟩
    refine yll_cons rfl (fun w516 hi517 => ?_) ?_
    ·
     have hb518 := low0 hb104 hi517
     refine wpo_pickf (v := .bool false) rfl rfl rfl rfl ?_
     exact wpo_nil ⟨rfl, hi517⟩
    refine yll_cons rfl (fun w519 hi520 => ?_) ?_
    ·
     have hb521 := low0 hb104 hi520
     refine wpo_move (v := .bool false) rfl rfl ?_
     exact wpo_nil ⟨rfl, hi520⟩
    refine yll_cons rfl (fun w522 hi523 => ?_) ?_
    ·
     have hb524 := low0 hb104 hi523
     refine wpo_pass rfl rfl rfl rfl rfl ?_
     exact wpo_nil ⟨rfl, hi523⟩
    refine yll_cons rfl (fun w525 hi526 => ?_) ?_
    ·
     have hb527 := low0 hb104 hi526
     refine wpo_pass rfl rfl rfl rfl rfl ?_
     exact wpo_nil ⟨rfl, hi526⟩
    refine yll_cons rfl (fun w528 hi529 => ?_) ?_
    ·
     have hb530 := low0 hb104 hi529
     refine wpo_pass rfl rfl rfl rfl rfl ?_
     exact wpo_nil ⟨rfl, hi529⟩
    refine yll_cons rfl (fun w531 hi532 => ?_) ?_
    ·
     have hb533 := low0 hb104 hi532
     refine wpo_pass rfl rfl rfl rfl rfl ?_
     exact wpo_nil ⟨rfl, hi532⟩
    refine yll_cons rfl (fun w534 hi535 => ?_) ?_
    ·
     have hb536 := low0 hb104 hi535
     refine wpo_pass rfl rfl rfl rfl rfl ?_
     exact wpo_nil ⟨rfl, hi535⟩
    refine yll_cons rfl (fun w537 hi538 => ?_) ?_
    ·
     have hb539 := low0 hb104 hi538
     refine wpo_pass rfl rfl rfl rfl rfl ?_
     exact wpo_nil ⟨rfl, hi538⟩
    refine yll_cons rfl (fun w540 hi541 => ?_) ?_
    ·
     have hb542 := low0 hb104 hi541
     refine wpo_pass rfl rfl rfl rfl rfl ?_
     exact wpo_nil ⟨rfl, hi541⟩
    exact yll_nil
   ·
    intro w543 hi544
    have hb545 := low0 hb104 hi544
    refine wpo_pass rfl rfl rfl rfl rfl ?_
    refine wpo_pass rfl rfl rfl rfl rfl ?_
    refine wpo_pickf (v := .bool false) rfl rfl rfl rfl ?_
    refine wpo_assign (v := .bool false) rfl rfl ?_
    exact wpo_nil (thn_n ⟨(congrArg Value.bool (by first | (simp only [h134, b0, b1, b2, b3, b4, b5, b6, b7, b8, b9]; done) | simp [h134])), hi544⟩)
 ·
  rintro f546 w547 ⟨e548, hg549⟩
  have hb550 := low0 hb104 hg549
  refine wpf_ret ?_
  refine ⟨.bool (((tableOk (tabT ms) && labelOk l) && inR k 1 (ms.length : Int)) && (!labelFlow ((mAt ms ((k - 1).toNat)).t.lab) l)), res1 rfl e548, ?_, hb550⟩
  exact congrArg Value.bool viewHigh_i
theorem es_69 : elemSz Try.prog 69 = some 5 := by kernel_rfl
theorem fo_76_0 : fieldOff Try.prog 76 0 = some 0 := by kernel_rfl
theorem fo_76_1 : fieldOff Try.prog 76 1 = some 1 := by kernel_rfl
theorem fo_76_2 : fieldOff Try.prog 76 2 = some 2 := by kernel_rfl
theorem fo_76_3 : fieldOff Try.prog 76 3 = some 3 := by kernel_rfl
theorem fo_76_4 : fieldOff Try.prog 76 4 = some 4 := by kernel_rfl
theorem gf_108 : goFn Try.prog 108 = true := by kernel_rfl
theorem gf_109 : goFn Try.prog 109 = true := by kernel_rfl
theorem gf_110 : goFn Try.prog 110 = true := by kernel_rfl
theorem gf_116 : goFn Try.prog 116 = true := by kernel_rfl
theorem gf_91 : goFn Try.prog 91 = true := by kernel_rfl
theorem gf_93 : goFn Try.prog 93 = true := by kernel_rfl
theorem gf_94 : goFn Try.prog 94 = true := by kernel_rfl
theorem mk_69 : mkTy Try.prog 69 = some (76, 5, 40, some (.agg #[.int .i64 0, .int .i64 0, .int .i64 0, .int .i64 0, .int .i64 0])) := by kernel_rfl
theorem rt_76 : rowTy Try.prog 76 = some 5 := by kernel_rfl
theorem zt_76 : zeroTy Try.prog 76 = some (.agg #[.int .i64 0, .int .i64 0, .int .i64 0, .int .i64 0, .int .i64 0]) := by kernel_rfl
theorem CallOk_c (c : Cl) (w : World) : CallsR Try.prog 116 #[.agg #[.int .i64 c.kind, .int .i64 c.run, .int .i64 c.a, .int .i64 c.b, .int .i64 c.n]] w (fun v w' => v = .bool (callOk c) ∧ w.grownBy w' none) := by
 refine calls_of_wpf (n := 26) Try.func116 rfl Try.ntmps116 rfl ?_
 have hb0 := World.grownBy.refl w none
 refine wpf_seq_region ?_
 refine wpo_box (v := .agg #[.int .i64 c.kind, .int .i64 c.run, .int .i64 c.a, .int .i64 c.b, .int .i64 c.n]) (cs := #[.int .i64 c.kind, .int .i64 c.run, .int .i64 c.a, .int .i64 c.b, .int .i64 c.n]) rfl rfl rfl ?_
 intro B101 w102 hN103
 have hlB101 := hN_ge hN103 hb0
 have hb104 := low0 hb0 hN103.grw
 refine wpo_assign (v := .bool false) rfl rfl ?_
 refine wpo_nil ?_
 refine wpf_seq_region_mid (fun f' w' => (f' 2 = .bool ((((inR c.kind 1 9 && inR c.run 1 8) && inR c.a 0 3) && inR c.b 0 3) && inR c.n 0 99)) ∧ w102.grownBy w' none) ?_ ?_
 ·
  refine wpo_fieldAddr (o' := 0) fo_76_0 rfl rfl rfl ?_
  refine wpo_load1 (v := .int .i64 c.kind) ot_3 rfl (hN103.blk.cell rfl) rfl ?_
  refine wpo_call (vs := [.int .i64 c.kind, .int .i64 1, .int .i64 9]) gf_69 (args_cons rfl (args_cons rfl (args_cons rfl args_nil))) rfl (inRange_c c.kind 1 9 _) ?_
  rintro _ w127 ⟨rfl, hg128⟩
  have hb129 := low0 hb104 hg128
  refine wpo_move (v := .bool (inR c.kind 1 9)) rfl rfl ?_
  rcases bcases (inR c.kind 1 9) with h130 | h130
  ·
   have hr131 := inR_iff.1 h130
   refine wpo_run rfl rfl rfl h130 ?_
   refine wpo_fieldAddr (o' := 1) fo_76_1 rfl rfl rfl ?_
   refine wpo_run rfl rfl rfl h130 ?_
   have k132 := (hN103.blk.grown0 hg128)
   refine wpo_load1 (v := .int .i64 c.run) ot_3 rfl (k132.cell rfl) rfl ?_
   refine wpo_run rfl rfl rfl h130 ?_
   refine wpo_call (vs := [.int .i64 c.run, .int .i64 1, .int .i64 8]) gf_69 (args_cons rfl (args_cons rfl (args_cons rfl args_nil))) rfl (inRange_c c.run 1 8 _) ?_
   rintro _ w133 ⟨rfl, hg134⟩
   have hb135 := low0 hb129 hg134
   refine wpo_pickt (v := .bool (inR c.run 1 8)) rfl h130 rfl rfl ?_
   refine wpo_move (v := .bool (inR c.run 1 8)) rfl rfl ?_
   rcases bcases (inR c.run 1 8) with h136 | h136
   ·
    have hr137 := inR_iff.1 h136
    refine wpo_run rfl rfl rfl h136 ?_
    refine wpo_fieldAddr (o' := 2) fo_76_2 rfl rfl rfl ?_
    refine wpo_run rfl rfl rfl h136 ?_
    have k138 := (k132.grown0 hg134)
    refine wpo_load1 (v := .int .i64 c.a) ot_3 rfl (k138.cell rfl) rfl ?_
    refine wpo_run rfl rfl rfl h136 ?_
    refine wpo_call (vs := [.int .i64 c.a, .int .i64 0, .int .i64 3]) gf_69 (args_cons rfl (args_cons rfl (args_cons rfl args_nil))) rfl (inRange_c c.a 0 3 _) ?_
    rintro _ w139 ⟨rfl, hg140⟩
    have hb141 := low0 hb135 hg140
    refine wpo_pickt (v := .bool (inR c.a 0 3)) rfl h136 rfl rfl ?_
    refine wpo_move (v := .bool (inR c.a 0 3)) rfl rfl ?_
    rcases bcases (inR c.a 0 3) with h142 | h142
    ·
     have hr143 := inR_iff.1 h142
     refine wpo_run rfl rfl rfl h142 ?_
     refine wpo_fieldAddr (o' := 3) fo_76_3 rfl rfl rfl ?_
     refine wpo_run rfl rfl rfl h142 ?_
     have k144 := (k138.grown0 hg140)
     refine wpo_load1 (v := .int .i64 c.b) ot_3 rfl (k144.cell rfl) rfl ?_
     refine wpo_run rfl rfl rfl h142 ?_
     refine wpo_call (vs := [.int .i64 c.b, .int .i64 0, .int .i64 3]) gf_69 (args_cons rfl (args_cons rfl (args_cons rfl args_nil))) rfl (inRange_c c.b 0 3 _) ?_
     rintro _ w145 ⟨rfl, hg146⟩
     have hb147 := low0 hb141 hg146
     refine wpo_pickt (v := .bool (inR c.b 0 3)) rfl h142 rfl rfl ?_
     refine wpo_move (v := .bool (inR c.b 0 3)) rfl rfl ?_
     rcases bcases (inR c.b 0 3) with h148 | h148
     ·
      have hr149 := inR_iff.1 h148
      refine wpo_run rfl rfl rfl h148 ?_
      refine wpo_fieldAddr (o' := 4) fo_76_4 rfl rfl rfl ?_
      refine wpo_run rfl rfl rfl h148 ?_
      have k150 := (k144.grown0 hg146)
      refine wpo_load1 (v := .int .i64 c.n) ot_3 rfl (k150.cell rfl) rfl ?_
      refine wpo_run rfl rfl rfl h148 ?_
      refine wpo_call (vs := [.int .i64 c.n, .int .i64 0, .int .i64 99]) gf_69 (args_cons rfl (args_cons rfl (args_cons rfl args_nil))) rfl (inRange_c c.n 0 99 _) ?_
      rintro _ w151 ⟨rfl, hg152⟩
      have hb153 := low0 hb147 hg152
      refine wpo_pickt (v := .bool (inR c.n 0 99)) rfl h148 rfl rfl ?_
      refine wpo_assign (v := .bool (inR c.n 0 99)) rfl rfl ?_
      exact wpo_nil ⟨(congrArg Value.bool (by first | (simp only [h130, h136, h142, h148, b0, b1, b2, b3, b4, b5, b6, b7, b8, b9]; done) | simp [h130, h136, h142, h148])), (grown_trans (grown_trans (grown_trans (grown_trans hg128 hg134) hg140) hg146) hg152)⟩
     ·
      iterate 3 refine wpo_pass rfl rfl rfl h148 rfl ?_
      refine wpo_pickf (v := .bool false) rfl h148 rfl rfl ?_
      refine wpo_assign (v := .bool false) rfl rfl ?_
      exact wpo_nil ⟨(congrArg Value.bool (by first | (simp only [h130, h136, h142, h148, b0, b1, b2, b3, b4, b5, b6, b7, b8, b9]; done) | simp [h130, h136, h142, h148])), (grown_trans (grown_trans (grown_trans hg128 hg134) hg140) hg146)⟩
    ·
     iterate 3 refine wpo_pass rfl rfl rfl h142 rfl ?_
     refine wpo_pickf (v := .bool false) rfl h142 rfl rfl ?_
     refine wpo_move (v := .bool false) rfl rfl ?_
     iterate 3 refine wpo_pass rfl rfl rfl rfl rfl ?_
     refine wpo_pickf (v := .bool false) rfl rfl rfl rfl ?_
     refine wpo_assign (v := .bool false) rfl rfl ?_
     exact wpo_nil ⟨(congrArg Value.bool (by first | (simp only [h130, h136, h142, b0, b1, b2, b3, b4, b5, b6, b7, b8, b9]; done) | simp [h130, h136, h142])), (grown_trans (grown_trans hg128 hg134) hg140)⟩
   ·
    iterate 3 refine wpo_pass rfl rfl rfl h136 rfl ?_
    refine wpo_pickf (v := .bool false) rfl h136 rfl rfl ?_
    refine wpo_move (v := .bool false) rfl rfl ?_
    iterate 3 refine wpo_pass rfl rfl rfl rfl rfl ?_
    refine wpo_pickf (v := .bool false) rfl rfl rfl rfl ?_
    refine wpo_move (v := .bool false) rfl rfl ?_
    iterate 3 refine wpo_pass rfl rfl rfl rfl rfl ?_
    refine wpo_pickf (v := .bool false) rfl rfl rfl rfl ?_
    refine wpo_assign (v := .bool false) rfl rfl ?_
    exact wpo_nil ⟨(congrArg Value.bool (by first | (simp only [h130, h136, b0, b1, b2, b3, b4, b5, b6, b7, b8, b9]; done) | simp [h130, h136])), (grown_trans hg128 hg134)⟩
  ·
   iterate 3 refine wpo_pass rfl rfl rfl h130 rfl ?_
   refine wpo_pickf (v := .bool false) rfl h130 rfl rfl ?_
   refine wpo_move (v := .bool false) rfl rfl ?_
   iterate 3 refine wpo_pass rfl rfl rfl rfl rfl ?_
   refine wpo_pickf (v := .bool false) rfl rfl rfl rfl ?_
   refine wpo_move (v := .bool false) rfl rfl ?_
   iterate 3 refine wpo_pass rfl rfl rfl rfl rfl ?_
   refine wpo_pickf (v := .bool false) rfl rfl rfl rfl ?_
   refine wpo_move (v := .bool false) rfl rfl ?_
   iterate 3 refine wpo_pass rfl rfl rfl rfl rfl ?_
   refine wpo_pickf (v := .bool false) rfl rfl rfl rfl ?_
   refine wpo_assign (v := .bool false) rfl rfl ?_
   exact wpo_nil ⟨(congrArg Value.bool (by first | (simp only [h130, b0, b1, b2, b3, b4, b5, b6, b7, b8, b9]; done) | simp [h130])), hg128⟩
 ·
  rintro f154 w155 ⟨e156, hg157⟩
  have hb158 := low0 hb104 hg157
  refine wpf_ret ?_
  refine ⟨.bool ((((inR c.kind 1 9 && inR c.run 1 8) && inR c.a 0 3) && inR c.b 0 3) && inR c.n 0 99), res1 rfl e156, ?_, hb158⟩
  rfl
theorem sCallOk_c (c : Cl) (w : World) : CallsR Try.prog 108 #[.agg #[.int .i64 c.kind, .int .i64 c.run, .int .i64 c.a, .int .i64 c.b, .int .i64 c.n]] w (fun v w' => v = .bool (callOk c) ∧ w.grownBy w' none) := by
 refine calls_of_wpf (n := 26) Try.func108 rfl Try.ntmps108 rfl ?_
 have hb0 := World.grownBy.refl w none
 refine wpf_seq_region ?_
 refine wpo_box (v := .agg #[.int .i64 c.kind, .int .i64 c.run, .int .i64 c.a, .int .i64 c.b, .int .i64 c.n]) (cs := #[.int .i64 c.kind, .int .i64 c.run, .int .i64 c.a, .int .i64 c.b, .int .i64 c.n]) rfl rfl rfl ?_
 intro B101 w102 hN103
 have hlB101 := hN_ge hN103 hb0
 have hb104 := low0 hb0 hN103.grw
 refine wpo_assign (v := .bool false) rfl rfl ?_
 refine wpo_nil ?_
 refine wpf_seq_region_mid (fun f' w' => (f' 2 = .bool ((((inR c.kind 1 9 && inR c.run 1 8) && inR c.a 0 3) && inR c.b 0 3) && inR c.n 0 99)) ∧ w102.grownBy w' none) ?_ ?_
 ·
  refine wpo_fieldAddr (o' := 0) fo_76_0 rfl rfl rfl ?_
  refine wpo_load1 (v := .int .i64 c.kind) ot_3 rfl (hN103.blk.cell rfl) rfl ?_
  refine wpo_call (vs := [.int .i64 c.kind, .int .i64 1, .int .i64 9]) gf_85 (args_cons rfl (args_cons rfl (args_cons rfl args_nil))) rfl (l6In_c c.kind 1 9 _) ?_
  rintro _ w127 ⟨rfl, hg128⟩
  have hb129 := low0 hb104 hg128
  refine wpo_move (v := .bool (inR c.kind 1 9)) rfl rfl ?_
  rcases bcases (inR c.kind 1 9) with h130 | h130
  ·
   have hr131 := inR_iff.1 h130
   refine wpo_run rfl rfl rfl h130 ?_
   refine wpo_fieldAddr (o' := 1) fo_76_1 rfl rfl rfl ?_
   refine wpo_run rfl rfl rfl h130 ?_
   have k132 := (hN103.blk.grown0 hg128)
   refine wpo_load1 (v := .int .i64 c.run) ot_3 rfl (k132.cell rfl) rfl ?_
   refine wpo_run rfl rfl rfl h130 ?_
   refine wpo_call (vs := [.int .i64 c.run, .int .i64 1, .int .i64 8]) gf_85 (args_cons rfl (args_cons rfl (args_cons rfl args_nil))) rfl (l6In_c c.run 1 8 _) ?_
   rintro _ w133 ⟨rfl, hg134⟩
   have hb135 := low0 hb129 hg134
   refine wpo_pickt (v := .bool (inR c.run 1 8)) rfl h130 rfl rfl ?_
   refine wpo_move (v := .bool (inR c.run 1 8)) rfl rfl ?_
   rcases bcases (inR c.run 1 8) with h136 | h136
   ·
    have hr137 := inR_iff.1 h136
    refine wpo_run rfl rfl rfl h136 ?_
    refine wpo_fieldAddr (o' := 2) fo_76_2 rfl rfl rfl ?_
    refine wpo_run rfl rfl rfl h136 ?_
    have k138 := (k132.grown0 hg134)
    refine wpo_load1 (v := .int .i64 c.a) ot_3 rfl (k138.cell rfl) rfl ?_
    refine wpo_run rfl rfl rfl h136 ?_
    refine wpo_call (vs := [.int .i64 c.a, .int .i64 0, .int .i64 3]) gf_85 (args_cons rfl (args_cons rfl (args_cons rfl args_nil))) rfl (l6In_c c.a 0 3 _) ?_
    rintro _ w139 ⟨rfl, hg140⟩
    have hb141 := low0 hb135 hg140
    refine wpo_pickt (v := .bool (inR c.a 0 3)) rfl h136 rfl rfl ?_
    refine wpo_move (v := .bool (inR c.a 0 3)) rfl rfl ?_
    rcases bcases (inR c.a 0 3) with h142 | h142
    ·
     have hr143 := inR_iff.1 h142
     refine wpo_run rfl rfl rfl h142 ?_
     refine wpo_fieldAddr (o' := 3) fo_76_3 rfl rfl rfl ?_
     refine wpo_run rfl rfl rfl h142 ?_
     have k144 := (k138.grown0 hg140)
     refine wpo_load1 (v := .int .i64 c.b) ot_3 rfl (k144.cell rfl) rfl ?_
     refine wpo_run rfl rfl rfl h142 ?_
     refine wpo_call (vs := [.int .i64 c.b, .int .i64 0, .int .i64 3]) gf_85 (args_cons rfl (args_cons rfl (args_cons rfl args_nil))) rfl (l6In_c c.b 0 3 _) ?_
     rintro _ w145 ⟨rfl, hg146⟩
     have hb147 := low0 hb141 hg146
     refine wpo_pickt (v := .bool (inR c.b 0 3)) rfl h142 rfl rfl ?_
     refine wpo_move (v := .bool (inR c.b 0 3)) rfl rfl ?_
     rcases bcases (inR c.b 0 3) with h148 | h148
     ·
      have hr149 := inR_iff.1 h148
      refine wpo_run rfl rfl rfl h148 ?_
      refine wpo_fieldAddr (o' := 4) fo_76_4 rfl rfl rfl ?_
      refine wpo_run rfl rfl rfl h148 ?_
      have k150 := (k144.grown0 hg146)
      refine wpo_load1 (v := .int .i64 c.n) ot_3 rfl (k150.cell rfl) rfl ?_
      refine wpo_run rfl rfl rfl h148 ?_
      refine wpo_call (vs := [.int .i64 c.n, .int .i64 0, .int .i64 99]) gf_85 (args_cons rfl (args_cons rfl (args_cons rfl args_nil))) rfl (l6In_c c.n 0 99 _) ?_
      rintro _ w151 ⟨rfl, hg152⟩
      have hb153 := low0 hb147 hg152
      refine wpo_pickt (v := .bool (inR c.n 0 99)) rfl h148 rfl rfl ?_
      refine wpo_assign (v := .bool (inR c.n 0 99)) rfl rfl ?_
      exact wpo_nil ⟨(congrArg Value.bool (by first | (simp only [h130, h136, h142, h148, b0, b1, b2, b3, b4, b5, b6, b7, b8, b9]; done) | simp [h130, h136, h142, h148])), (grown_trans (grown_trans (grown_trans (grown_trans hg128 hg134) hg140) hg146) hg152)⟩
     ·
      iterate 3 refine wpo_pass rfl rfl rfl h148 rfl ?_
      refine wpo_pickf (v := .bool false) rfl h148 rfl rfl ?_
      refine wpo_assign (v := .bool false) rfl rfl ?_
      exact wpo_nil ⟨(congrArg Value.bool (by first | (simp only [h130, h136, h142, h148, b0, b1, b2, b3, b4, b5, b6, b7, b8, b9]; done) | simp [h130, h136, h142, h148])), (grown_trans (grown_trans (grown_trans hg128 hg134) hg140) hg146)⟩
    ·
     iterate 3 refine wpo_pass rfl rfl rfl h142 rfl ?_
     refine wpo_pickf (v := .bool false) rfl h142 rfl rfl ?_
     refine wpo_move (v := .bool false) rfl rfl ?_
     iterate 3 refine wpo_pass rfl rfl rfl rfl rfl ?_
     refine wpo_pickf (v := .bool false) rfl rfl rfl rfl ?_
     refine wpo_assign (v := .bool false) rfl rfl ?_
     exact wpo_nil ⟨(congrArg Value.bool (by first | (simp only [h130, h136, h142, b0, b1, b2, b3, b4, b5, b6, b7, b8, b9]; done) | simp [h130, h136, h142])), (grown_trans (grown_trans hg128 hg134) hg140)⟩
   ·
    iterate 3 refine wpo_pass rfl rfl rfl h136 rfl ?_
    refine wpo_pickf (v := .bool false) rfl h136 rfl rfl ?_
    refine wpo_move (v := .bool false) rfl rfl ?_
    iterate 3 refine wpo_pass rfl rfl rfl rfl rfl ?_
    refine wpo_pickf (v := .bool false) rfl rfl rfl rfl ?_
    refine wpo_move (v := .bool false) rfl rfl ?_
    iterate 3 refine wpo_pass rfl rfl rfl rfl rfl ?_
    refine wpo_pickf (v := .bool false) rfl rfl rfl rfl ?_
    refine wpo_assign (v := .bool false) rfl rfl ?_
    exact wpo_nil ⟨(congrArg Value.bool (by first | (simp only [h130, h136, b0, b1, b2, b3, b4, b5, b6, b7, b8, b9]; done) | simp [h130, h136])), (grown_trans hg128 hg134)⟩
  ·
   iterate 3 refine wpo_pass rfl rfl rfl h130 rfl ?_
   refine wpo_pickf (v := .bool false) rfl h130 rfl rfl ?_
   refine wpo_move (v := .bool false) rfl rfl ?_
   iterate 3 refine wpo_pass rfl rfl rfl rfl rfl ?_
   refine wpo_pickf (v := .bool false) rfl rfl rfl rfl ?_
   refine wpo_move (v := .bool false) rfl rfl ?_
   iterate 3 refine wpo_pass rfl rfl rfl rfl rfl ?_
   refine wpo_pickf (v := .bool false) rfl rfl rfl rfl ?_
   refine wpo_move (v := .bool false) rfl rfl ?_
   iterate 3 refine wpo_pass rfl rfl rfl rfl rfl ?_
   refine wpo_pickf (v := .bool false) rfl rfl rfl rfl ?_
   refine wpo_assign (v := .bool false) rfl rfl ?_
   exact wpo_nil ⟨(congrArg Value.bool (by first | (simp only [h130, b0, b1, b2, b3, b4, b5, b6, b7, b8, b9]; done) | simp [h130])), hg128⟩
 ·
  rintro f154 w155 ⟨e156, hg157⟩
  have hb158 := low0 hb104 hg157
  refine wpf_ret ?_
  refine ⟨.bool ((((inR c.kind 1 9 && inR c.run 1 8) && inR c.a 0 3) && inR c.b 0 3) && inR c.n 0 99), res1 rfl e156, ?_, hb158⟩
  rfl
theorem l11Run_c (k : Int) (hk : -9223372036854775807 ≤ k) (w : World) (ms : List MTh) (a : Option Addr) (c : Nat) (ht : TabAt w a ms) (hlen : TabLen ms) (hn : ms.length ≤ 1048576) : CallsR Try.prog 109 #[.slice a ms.length c, .int .i64 k] w (fun v w' => v = .bool (kindAt (tabT ms) k 3) ∧ w.grownBy w' none) := by
 refine calls_of_wpf (n := 18) Try.func109 rfl Try.ntmps109 rfl ?_
 have hb0 := World.grownBy.refl w none
 refine wpf_seq_region ?_
 refine wpo_assign (v := .bool false) rfl rfl ?_
 refine wpo_nil ?_
 refine wpf_seq_region_mid (fun f' w' => (f' 4 = .bool (inR k 1 (ms.length : Int) && (decide ((mAt ms ((k - 1).toNat)).t.kind = 3)))) ∧ w.grownBy w' none) ?_ ?_
 ·
  refine wpo_move (v := .int .i64 k) rfl rfl ?_
  refine wpo_move (v := .slice a ms.length c) rfl rfl ?_
  refine wpo_len (by kernel_rfl) rfl rfl ?_
  refine wpo_call (vs := [.int .i64 k, .int .i64 1, .int .i64 (ms.length : Int)]) gf_85 (args_cons rfl (args_cons rfl (args_cons rfl args_nil))) rfl (l6In_c k 1 (ms.length : Int) _) ?_
  rintro _ w116 ⟨rfl, hg117⟩
  have hb118 := low0 hb0 hg117
  refine wpo_move (v := .bool (inR k 1 (ms.length : Int))) rfl rfl ?_
  rcases bcases (inR k 1 (ms.length : Int)) with h119 | h119
  ·
   have hr120 := inR_iff.1 h119
   refine wpo_run rfl rfl rfl h119 ?_
   refine wpo_move (v := .slice a ms.length c) rfl rfl ?_
   refine wpo_run rfl rfl rfl h119 ?_
   refine wpo_move (v := .int .i64 k) rfl rfl ?_
   refine wpo_run rfl rfl rfl h119 ?_
   refine wpo_sub (c := k - 1) rfl rfl (by omega) (by omega) (by omega) rfl ?_
   refine wpo_run rfl rfl rfl h119 ?_
   obtain ⟨b123, q124, o125, ha126, ho127, hr128⟩ := SlAt.at (TabAt.low ht hb118).1 (map_get (mAt_get (show (k - 1).toNat < ms.length by omega)))
   have hle129 := TabLen.at hlen (mAt_get (show (k - 1).toNat < ms.length by omega))
   refine wpo_indexE es_54 rfl rfl ha126 ho127 (by omega) (by omega) rfl ?_
   refine wpo_run rfl rfl rfl h119 ?_
   refine wpo_fieldAddr (o' := o125) fo_45_0 rfl rfl rfl ?_
   refine wpo_run rfl rfl rfl h119 ?_
   refine wpo_load1 (v := .int .i64 ((mAt ms ((k - 1).toNat)).t.kind)) ot_3 rfl (hr128 0 _ rfl) rfl ?_
   refine wpo_run rfl rfl rfl h119 ?_
   refine wpo_eql (q := decide ((mAt ms ((k - 1).toNat)).t.kind = 3)) rfl rfl rfl rfl ?_
   refine wpo_pickt (v := .bool (decide ((mAt ms ((k - 1).toNat)).t.kind = 3))) rfl h119 rfl rfl ?_
   refine wpo_assign (v := .bool (decide ((mAt ms ((k - 1).toNat)).t.kind = 3))) rfl rfl ?_
   exact wpo_nil ⟨(congrArg Value.bool (by first | (simp only [h119, b0, b1, b2, b3, b4, b5, b6, b7, b8, b9]; done) | simp [h119])), hg117⟩
  ·
   iterate 7 refine wpo_pass rfl rfl rfl h119 rfl ?_
   refine wpo_pickf (v := .bool false) rfl h119 rfl rfl ?_
   refine wpo_assign (v := .bool false) rfl rfl ?_
   exact wpo_nil ⟨(congrArg Value.bool (by first | (simp only [h119, b0, b1, b2, b3, b4, b5, b6, b7, b8, b9]; done) | simp [h119])), hg117⟩
 ·
  rintro f130 w131 ⟨e132, hg133⟩
  have hb134 := low0 hb0 hg133
  refine wpf_ret ?_
  refine ⟨.bool (inR k 1 (ms.length : Int) && (decide ((mAt ms ((k - 1).toNat)).t.kind = 3))), res1 rfl e132, ?_, hb134⟩
  exact congrArg Value.bool kindAt_m
theorem callPoss_c (q : Cl) (w : World) (ms : List MTh) (a : Option Addr) (c : Nat) (ht : TabAt w a ms) (hlen : TabLen ms) (hn : ms.length ≤ 1048576) : CallsR Try.prog 110 #[.slice a ms.length c, .agg #[.int .i64 q.kind, .int .i64 q.run, .int .i64 q.a, .int .i64 q.b, .int .i64 q.n]] w (fun v w' => v = .bool (callPoss (tabT ms) q) ∧ w.grownBy w' none) := by
 refine calls_of_wpf (n := 17) Try.func110 rfl Try.ntmps110 rfl ?_
 have hb0 := World.grownBy.refl w none
 refine wpf_seq_region ?_
 refine wpo_box (v := .agg #[.int .i64 q.kind, .int .i64 q.run, .int .i64 q.a, .int .i64 q.b, .int .i64 q.n]) (cs := #[.int .i64 q.kind, .int .i64 q.run, .int .i64 q.a, .int .i64 q.b, .int .i64 q.n]) rfl rfl rfl ?_
 intro B101 w102 hN103
 have hlB101 := hN_ge hN103 hb0
 have hb104 := low0 hb0 hN103.grw
 refine wpo_assign (v := .bool false) rfl rfl ?_
 refine wpo_nil ?_
 refine wpf_seq_region_mid (fun f' w' => (f' 4 = .bool ((tableOk (tabT ms) && callOk q) && kindAt (tabT ms) q.run 3)) ∧ w102.grownBy w' none) ?_ ?_
 ·
  refine wpo_move (v := .slice a ms.length c) rfl rfl ?_
  refine wpo_call (vs := [.slice a ms.length c]) gf_83 (args_cons rfl args_nil) rfl (TableOk_c  _ ms _ _ (TabAt.low ht hb104) hlen (by omega)) ?_
  rintro _ w119 ⟨rfl, hg120⟩
  have hb121 := low0 hb104 hg120
  refine wpo_move (v := .bool (tableOk (tabT ms))) rfl rfl ?_
  rcases bcases (tableOk (tabT ms)) with h122 | h122
  ·
   refine wpo_run rfl rfl rfl h122 ?_
   have k123 := (hN103.blk.grown0 hg120)
   refine wpo_loadn (vs := [.int .i64 q.kind, .int .i64 q.run, .int .i64 q.a, .int .i64 q.b, .int .i64 q.n]) rt_76 rfl rfl (k123.rangeL 0 5 rfl) rfl ?_
   refine wpo_run rfl rfl rfl h122 ?_
   refine wpo_call (vs := [.agg #[.int .i64 q.kind, .int .i64 q.run, .int .i64 q.a, .int .i64 q.b, .int .i64 q.n]]) gf_116 (args_cons rfl args_nil) rfl (CallOk_c q _) ?_
   rintro _ w124 ⟨rfl, hg125⟩
   have hb126 := low0 hb121 hg125
   refine wpo_pickt (v := .bool (callOk q)) rfl h122 rfl rfl ?_
   refine wpo_move (v := .bool (callOk q)) rfl rfl ?_
   rcases bcases (callOk q) with h127 | h127
   ·
    have hco128 := callOk_iff h127
    refine wpo_run rfl rfl rfl h127 ?_
    refine wpo_move (v := .slice a ms.length c) rfl rfl ?_
    refine wpo_run rfl rfl rfl h127 ?_
    refine wpo_fieldAddr (o' := 1) fo_76_1 rfl rfl rfl ?_
    refine wpo_run rfl rfl rfl h127 ?_
    have k129 := (k123.grown0 hg125)
    refine wpo_load1 (v := .int .i64 q.run) ot_3 rfl (k129.cell rfl) rfl ?_
    refine wpo_run rfl rfl rfl h127 ?_
    refine wpo_call (vs := [.slice a ms.length c, .int .i64 q.run, .int .i64 3]) gf_103 (args_cons rfl (args_cons rfl (args_cons rfl args_nil))) rfl (kindAt_c q.run 3 (by omega) _ ms _ _ (TabAt.low ht hb126) hlen (by omega)) ?_
    rintro _ w130 ⟨rfl, hg131⟩
    have hb132 := low0 hb126 hg131
    refine wpo_pickt (v := .bool (kindAt (tabT ms) q.run 3)) rfl h127 rfl rfl ?_
    refine wpo_assign (v := .bool (kindAt (tabT ms) q.run 3)) rfl rfl ?_
    exact wpo_nil ⟨(congrArg Value.bool (by first | (simp only [h122, h127, b0, b1, b2, b3, b4, b5, b6, b7, b8, b9]; done) | simp [h122, h127])), (grown_trans (grown_trans hg120 hg125) hg131)⟩
   ·
    iterate 4 refine wpo_pass rfl rfl rfl h127 rfl ?_
    refine wpo_pickf (v := .bool false) rfl h127 rfl rfl ?_
    refine wpo_assign (v := .bool false) rfl rfl ?_
    exact wpo_nil ⟨(congrArg Value.bool (by first | (simp only [h122, h127, b0, b1, b2, b3, b4, b5, b6, b7, b8, b9]; done) | simp [h122, h127])), (grown_trans hg120 hg125)⟩
  ·
   refine wpo_pass rfl rfl rfl h122 rfl ?_
   refine wpo_pass rfl rfl rfl h122 rfl ?_
   refine wpo_pickf (v := .bool false) rfl h122 rfl rfl ?_
   refine wpo_move (v := .bool false) rfl rfl ?_
   iterate 4 refine wpo_pass rfl rfl rfl rfl rfl ?_
   refine wpo_pickf (v := .bool false) rfl rfl rfl rfl ?_
   refine wpo_assign (v := .bool false) rfl rfl ?_
   exact wpo_nil ⟨(congrArg Value.bool (by first | (simp only [h122, b0, b1, b2, b3, b4, b5, b6, b7, b8, b9]; done) | simp [h122])), hg120⟩
 ·
  rintro f133 w134 ⟨e135, hg136⟩
  have hb137 := low0 hb104 hg136
  refine wpf_ret ?_
  refine ⟨.bool ((tableOk (tabT ms) && callOk q) && kindAt (tabT ms) q.run 3), res1 rfl e135, ?_, hb137⟩
  rfl
theorem l21Calls_c (w : World) (ms : List MTh) (a : Option Addr) (c : Nat) (ht : TabAt w a ms) (hlen : TabLen ms) (hn : ms.length ≤ 1048576) (cs : List Cl) (b : Option Addr) (e : Nat) (hs : SlAt w b 5 (cs.map Cl.cells)) (hm : cs.length ≤ 1048576) : CallsR Try.prog 91 #[.slice a ms.length c, .slice b cs.length e] w (fun v w' => v = .bool (callsIn_ (tabT ms) cs) ∧ w.grownBy w' none) := by
 refine calls_of_wpf (n := 31) Try.func91 rfl Try.ntmps91 rfl ?_
 have hb0 := World.grownBy.refl w none
 refine wpf_seq_region ?_
 refine wpo_assign (v := .bool false) rfl rfl ?_
 refine wpo_nil ?_
 refine wpf_seq ?_
 refine wpf_seq_region ?_
 refine wpo_assign (v := .int .i64 0) rfl rfl ?_
 refine wpo_nil ?_
 refine wpf_block ?_
 refine wpf_loopN (fun mm f' w' => ∃ (k : Nat), mm = cs.length - k ∧ k ≤ cs.length ∧ ((cs.take k).all (callIn (tabT ms))) = true ∧ f' 5 = .int .i64 (k : Int) ∧ f' 0 = .slice a ms.length c ∧ f' 1 = .slice b cs.length e ∧ w.grownBy w' none) (cs.length - 0) ⟨0, rfl, (Nat.zero_le _), rfl, rfl, rfl, rfl, hb0⟩ ?_
 rintro mm f101 w102 ⟨k, hm104, hk, hall, e105, e106, e107, hb103⟩
 refine wpf_seq ?_
 refine wpf_seq_region ?_
 refine wpo_move (v := .int .i64 (k : Int)) e105 rfl ?_
 refine wpo_move (v := .slice b cs.length e) e107 rfl ?_
 refine wpo_len (by kernel_rfl) rfl rfl ?_
 refine wpo_lss (q := decide ((k : Int) < (cs.length : Int))) rfl rfl rfl rfl ?_
 refine wpo_nil ?_
 refine wpf_cond rfl (fun h108 => ?_) (fun h108 => ?_)
 ·
  have h109 := of_decide_eq_true h108
  refine wpf_skip ?_
  refine thn_n ?_
  refine wpf_seq ?_
  refine wpf_block ?_
  refine wpf_seq_region_mid (fun f' w' => (f' 0 = .slice a ms.length c ∧ f' 1 = .slice b cs.length e ∧ f' 5 = .int .i64 (k : Int) ∧ f' 27 = .bool ((!callOk (cAt cs k)) || (!kindAt (tabT ms) ((cAt cs k).run) 3))) ∧ w102.grownBy w' none) ?_ ?_
  ·
   refine wpo_move (v := .slice b cs.length e) e107 rfl ?_
   refine wpo_move (v := .int .i64 (k : Int)) e105 rfl ?_
   obtain ⟨b137, q138, o139, ha140, ho141, hr142⟩ := SlAt.at (SlAt.low hs hb103) (map_get (cAt_get (show k < cs.length by omega)))
   refine wpo_indexE es_69 rfl rfl ha140 ho141 (by omega) (by omega) rfl ?_
   refine wpo_loadn (vs := [.int .i64 ((cAt cs k).kind), .int .i64 ((cAt cs k).run), .int .i64 ((cAt cs k).a), .int .i64 ((cAt cs k).b), .int .i64 ((cAt cs k).n)]) rt_76 rfl rfl (range_sub hr142 0 5 rfl) rfl ?_
   refine wpo_call (vs := [.agg #[.int .i64 ((cAt cs k).kind), .int .i64 ((cAt cs k).run), .int .i64 ((cAt cs k).a), .int .i64 ((cAt cs k).b), .int .i64 ((cAt cs k).n)]]) gf_108 (args_cons rfl args_nil) rfl (sCallOk_c (cAt cs k) _) ?_
   rintro _ w143 ⟨rfl, hg144⟩
   have hb145 := low0 hb103 hg144
   refine wpo_not (b' := !callOk (cAt cs k)) rfl rfl rfl ?_
   refine wpo_move (v := .bool (!callOk (cAt cs k))) rfl rfl ?_
   rcases bcases (!callOk (cAt cs k)) with h146 | h146
   ·
    have h147 := nt_t h146
    iterate 8 refine wpo_pass rfl rfl rfl h146 rfl ?_
    refine wpo_pickt (v := .bool true) rfl h146 rfl rfl ?_
    exact wpo_nil ⟨⟨e106, e107, e105, (congrArg Value.bool (by first | (simp only [h108, h146, h147, b0, b1, b2, b3, b4, b5, b6, b7, b8, b9]; done) | simp [h108, h146, h147]))⟩, hg144⟩
   ·
    have h148 := nt_f h146
    have hco149 := callOk_iff h148
    refine wpo_run rfl rfl rfl h146 ?_
    refine wpo_move (v := .slice a ms.length c) e106 rfl ?_
    refine wpo_run rfl rfl rfl h146 ?_
    refine wpo_move (v := .slice b cs.length e) e107 rfl ?_
    refine wpo_run rfl rfl rfl h146 ?_
    refine wpo_move (v := .int .i64 (k : Int)) e105 rfl ?_
    refine wpo_run rfl rfl rfl h146 ?_
    refine wpo_indexE es_69 rfl rfl ha140 ho141 (by omega) (by omega) rfl ?_
    refine wpo_run rfl rfl rfl h146 ?_
    refine wpo_fieldAddr (o' := o139 + 1) fo_76_1 rfl rfl rfl ?_
    refine wpo_run rfl rfl rfl h146 ?_
    refine wpo_load1 (v := .int .i64 ((cAt cs k).run)) ot_3 rfl ((range_low hr142 hg144) 1 _ rfl) rfl ?_
    refine wpo_run rfl rfl rfl h146 ?_
    refine wpo_call (vs := [.slice a ms.length c, .int .i64 ((cAt cs k).run)]) gf_109 (args_cons rfl (args_cons rfl args_nil)) rfl (l11Run_c ((cAt cs k).run) (by omega) _ ms _ _ (TabAt.low ht hb145) hlen (by omega)) ?_
    rintro _ w150 ⟨rfl, hg151⟩
    have hb152 := low0 hb145 hg151
    refine wpo_run rfl rfl rfl h146 ?_
    refine wpo_not (b' := !kindAt (tabT ms) ((cAt cs k).run) 3) rfl rfl rfl ?_
    refine wpo_pickf (v := .bool (!kindAt (tabT ms) ((cAt cs k).run) 3)) rfl h146 rfl rfl ?_
    exact wpo_nil ⟨⟨e106, e107, e105, (congrArg Value.bool (by first | (simp only [h108, h146, h148, b0, b1, b2, b3, b4, b5, b6, b7, b8, b9]; done) | simp [h108, h146, h148]))⟩, (grown_trans hg144 hg151)⟩
  ·
   rintro f153 w154 ⟨⟨e155, e156, e157, e158⟩, hg159⟩
   have hb160 := low0 hb103 hg159
   refine wpf_cond e158 (fun h161 => ?_) (fun h161 => ?_)
   ·
    refine wpf_seq_region ?_
    refine wpo_assign (v := .bool false) rfl rfl ?_
    refine wpo_nil ?_
    refine wpf_ret ?_
    refine blk_r ?_
    refine thn_r ?_
    refine thn_r ?_
    refine blk_r ?_
    refine thn_r ?_
    refine ⟨.bool false, res1 rfl rfl, ?_, hb160⟩
    exact congrArg Value.bool (calls_no (k := k) (cAt_get (by omega)) (nt_t (callIn_s.symm.trans h161))).symm
   ·
    have h162 := or_l h161
    have h163 := nt_f h162
    have hco164 := callOk_iff h163
    have h165 := or_r h161
    have h166 := nt_f h165
    refine wpf_skip ?_
    refine blk_n ?_
    refine thn_n ?_
    refine wpf_region ?_
    refine wpo_move (v := .int .i64 (k : Int)) e157 rfl ?_
    refine wpo_add (c := (k : Int) + 1) rfl rfl (by omega) (by omega) (by omega) rfl ?_
    refine wpo_assign (v := .int .i64 ((k : Int) + 1)) rfl rfl ?_
    refine wpo_nil ?_
    refine thn_n ?_
    exact ⟨cs.length - (k + 1), by omega, (k + 1), rfl, (by omega), (take_all_succ (p := callIn (tabT ms)) hall (cAt_get (by omega)) (nt_f (callIn_s.symm.trans h161))), rfl, e155, e156, hb160⟩
 ·
  have h167 := of_decide_eq_false h108
  refine wpf_exit ?_
  refine thn_e ?_
  refine thn_e ?_
  refine blk_e ?_
  refine thn_n ?_
  refine wpf_seq_region ?_
  refine wpo_move (v := .slice b cs.length e) e107 rfl ?_
  refine wpo_len (by kernel_rfl) rfl rfl ?_
  refine wpo_leq (q := decide ((cs.length : Int) ≤ 40)) rfl rfl rfl rfl ?_
  refine wpo_assign (v := .bool (decide ((cs.length : Int) ≤ 40))) rfl rfl ?_
  refine wpo_nil ?_
  refine wpf_ret ?_
  refine ⟨.bool (decide ((cs.length : Int) ≤ 40)), res1 rfl rfl, ?_, hb103⟩
  exact congrArg Value.bool (calls_yes hall (by omega))
theorem scriptOk_c (w : World) (ms : List MTh) (a : Option Addr) (c : Nat) (ht : TabAt w a ms) (hlen : TabLen ms) (hn : ms.length ≤ 1048576) (cs : List Cl) (b : Option Addr) (e : Nat) (hs : SlAt w b 5 (cs.map Cl.cells)) (hm : cs.length ≤ 1048576) : CallsR Try.prog 93 #[.slice a ms.length c, .slice b cs.length e] w (fun v w' => v = .bool (scriptOk (tabT ms) cs) ∧ w.grownBy w' none) := by
 refine calls_of_wpf (n := 26) Try.func93 rfl Try.ntmps93 rfl ?_
 have hb0 := World.grownBy.refl w none
 refine wpf_seq_region ?_
 refine wpo_assign (v := .bool false) rfl rfl ?_
 refine wpo_nil ?_
 refine wpf_seq ?_
 refine wpf_seq_region_mid (fun f' w' => (f' 0 = .slice a ms.length c ∧ f' 1 = .slice b cs.length e ∧ f' 4 = .bool false ∧ f' 14 = .bool ((!tableOk (tabT ms)) || (decide (40 < (cs.length : Int))))) ∧ w.grownBy w' none) ?_ ?_
 ·
  refine wpo_move (v := .slice a ms.length c) rfl rfl ?_
  refine wpo_call (vs := [.slice a ms.length c]) gf_83 (args_cons rfl args_nil) rfl (TableOk_c  _ ms _ _ (TabAt.low ht hb0) hlen (by omega)) ?_
  rintro _ w107 ⟨rfl, hg108⟩
  have hb109 := low0 hb0 hg108
  refine wpo_not (b' := !tableOk (tabT ms)) rfl rfl rfl ?_
  refine wpo_move (v := .bool (!tableOk (tabT ms))) rfl rfl ?_
  rcases bcases (!tableOk (tabT ms)) with h110 | h110
  ·
   have h111 := nt_t h110
   iterate 3 refine wpo_pass rfl rfl rfl h110 rfl ?_
   refine wpo_pickt (v := .bool true) rfl h110 rfl rfl ?_
   exact wpo_nil ⟨⟨rfl, rfl, rfl, (congrArg Value.bool (by first | (simp only [h110, h111, b0, b1, b2, b3, b4, b5, b6, b7, b8, b9]; done) | simp [h110, h111]))⟩, hg108⟩
  ·
   have h112 := nt_f h110
   refine wpo_run rfl rfl rfl h110 ?_
   refine wpo_move (v := .slice b cs.length e) rfl rfl ?_
   refine wpo_run rfl rfl rfl h110 ?_
   refine wpo_len (by kernel_rfl) rfl rfl ?_
   refine wpo_run rfl rfl rfl h110 ?_
   refine wpo_gtr (q := decide (40 < (cs.length : Int))) rfl rfl rfl rfl ?_
   refine wpo_pickf (v := .bool (decide (40 < (cs.length : Int)))) rfl h110 rfl rfl ?_
   exact wpo_nil ⟨⟨rfl, rfl, rfl, (congrArg Value.bool (by first | (simp only [h110, h112, b0, b1, b2, b3, b4, b5, b6, b7, b8, b9]; done) | simp [h110, h112]))⟩, hg108⟩
 ·
  rintro f113 w114 ⟨⟨e115, e116, e117, e118⟩, hg119⟩
  have hb120 := low0 hb0 hg119
  refine wpf_cond e118 (fun h121 => ?_) (fun h121 => ?_)
  ·
   refine wpf_seq_region ?_
   refine wpo_assign (v := .bool false) rfl rfl ?_
   refine wpo_nil ?_
   refine wpf_ret ?_
   refine thn_r ?_
   refine ⟨.bool false, res1 rfl rfl, ?_, hb120⟩
   exact congrArg Value.bool (script_no1 h121).symm
  ·
   have h122 := or_l h121
   have h123 := nt_f h122
   have h124 := or_r h121
   have h125 := of_decide_eq_false h124
   refine wpf_skip ?_
   refine thn_n ?_
   refine wpf_seq ?_
   refine wpf_seq_region ?_
   refine wpo_move (v := .slice b cs.length e) e116 rfl ?_
   refine wpo_len (by kernel_rfl) rfl rfl ?_
   refine wpo_move (v := .int .i64 0) rfl rfl ?_
   refine wpo_nil ?_
   refine wpf_block ?_
   refine wpf_loopN (fun mm f' w' => ∃ (k : Nat), mm = cs.length - k ∧ k ≤ cs.length ∧ ((cs.take k).all (callPoss (tabT ms))) = true ∧ f' 17 = .int .i64 (k : Int) ∧ f' 0 = .slice a ms.length c ∧ f' 15 = .slice b cs.length e ∧ f' 16 = .int .i64 (cs.length : Int) ∧ w.grownBy w' none) (cs.length - 0) ⟨0, rfl, (Nat.zero_le _), rfl, rfl, e115, rfl, rfl, hb120⟩ ?_
   rintro mm f126 w127 ⟨k, hm129, hk, hall, e130, e131, e132, e133, hb128⟩
   refine wpf_seq_region ?_
   refine wpo_lss (q := decide ((k : Int) < (cs.length : Int))) e130 e133 rfl rfl ?_
   refine wpo_nil ?_
   refine wpf_seq ?_
   refine wpf_cond rfl (fun h134 => ?_) (fun h134 => ?_)
   ·
    have h135 := of_decide_eq_true h134
    refine wpf_skip ?_
    refine thn_n ?_
    refine wpf_seq ?_
    refine wpf_block ?_
    refine wpf_seq_region ?_
    obtain ⟨b138, q139, o140, ha141, ho142, hr143⟩ := SlAt.at (SlAt.low hs hb128) (map_get (cAt_get (show k < cs.length by omega)))
    refine wpo_indexE es_69 e132 e130 ha141 ho142 (by omega) (by omega) rfl ?_
    refine wpo_loadn (vs := [.int .i64 ((cAt cs k).kind), .int .i64 ((cAt cs k).run), .int .i64 ((cAt cs k).a), .int .i64 ((cAt cs k).b), .int .i64 ((cAt cs k).n)]) rt_76 rfl rfl (range_sub hr143 0 5 rfl) rfl ?_
    refine wpo_alloc (cs := #[.int .i64 0, .int .i64 0, .int .i64 0, .int .i64 0, .int .i64 0]) zt_76 rfl rfl ?_
    intro B144 w145 hN146
    have hlB144 := hN_ge hN146 hb128
    have hb147 := low0 hb128 hN146.grw
    refine wpo_storen (vs := [.int .i64 ((cAt cs k).kind), .int .i64 ((cAt cs k).run), .int .i64 ((cAt cs k).a), .int .i64 ((cAt cs k).b), .int .i64 ((cAt cs k).n)]) (cs' := #[.int .i64 ((cAt cs k).kind), .int .i64 ((cAt cs k).run), .int .i64 ((cAt cs k).a), .int .i64 ((cAt cs k).b), .int .i64 ((cAt cs k).n)]) rt_76 rfl rfl rfl (by simp [Value.oneCell']) hN146.blk (Nat.le_of_ble_eq_true rfl) rfl ?_
    intro w148 hS149
    have hb150 := low1 hb147 hS149.grw (by omega)
    refine wpo_nil ?_
    refine wpf_seq_region ?_
    refine wpo_move (v := .slice a ms.length c) e131 rfl ?_
    refine wpo_loadn (vs := [.int .i64 ((cAt cs k).kind), .int .i64 ((cAt cs k).run), .int .i64 ((cAt cs k).a), .int .i64 ((cAt cs k).b), .int .i64 ((cAt cs k).n)]) rt_76 rfl rfl (hS149.blk.rangeL 0 5 rfl) rfl ?_
    refine wpo_call (vs := [.slice a ms.length c, .agg #[.int .i64 ((cAt cs k).kind), .int .i64 ((cAt cs k).run), .int .i64 ((cAt cs k).a), .int .i64 ((cAt cs k).b), .int .i64 ((cAt cs k).n)]]) gf_110 (args_cons rfl (args_cons rfl args_nil)) rfl (callPoss_c (cAt cs k) _ ms _ _ (TabAt.low ht hb150) hlen (by omega)) ?_
    rintro _ w151 ⟨rfl, hg152⟩
    have hb153 := low0 hb150 hg152
    refine wpo_not (b' := !callPoss (tabT ms) (cAt cs k)) rfl rfl rfl ?_
    refine wpo_nil ?_
    refine wpf_cond rfl (fun h154 => ?_) (fun h154 => ?_)
    ·
     have h155 := nt_t h154
     refine wpf_seq_region ?_
     refine wpo_assign (v := .bool false) rfl rfl ?_
     refine wpo_nil ?_
     refine wpf_ret ?_
     refine blk_r ?_
     refine thn_r ?_
     refine thn_r ?_
     refine blk_r ?_
     refine thn_r ?_
     refine ⟨.bool false, res1 rfl rfl, ?_, hb153⟩
     exact congrArg Value.bool (script_no2 (k := k) (cAt_get (by omega)) h155).symm
    ·
     have h156 := nt_f h154
     refine wpf_skip ?_
     refine blk_n ?_
     refine thn_n ?_
     refine wpf_region ?_
     refine wpo_add (c := (k : Int) + 1) e130 rfl (by omega) (by omega) (by omega) rfl ?_
     refine wpo_move (v := .int .i64 ((k : Int) + 1)) rfl rfl ?_
     refine wpo_nil ?_
     refine thn_n ?_
     exact ⟨cs.length - (k + 1), by omega, (k + 1), rfl, (by omega), (take_all_succ (p := callPoss (tabT ms)) hall (cAt_get (by omega)) h156), rfl, e131, e132, e133, hb153⟩
   ·
    have h157 := of_decide_eq_false h134
    refine wpf_exit ?_
    refine thn_e ?_
    refine thn_e ?_
    refine blk_e ?_
    refine thn_n ?_
    refine wpf_seq_region ?_
    refine wpo_assign (v := .bool true) rfl rfl ?_
    refine wpo_nil ?_
    refine wpf_ret ?_
    refine ⟨.bool true, res1 rfl rfl, ?_, hb128⟩
    exact congrArg Value.bool (script_yes h121 hall (by omega)).symm
theorem runLow1_c (k : Int) (l : Lab) (w : World) (ms : List MTh) (a : Option Addr) (c : Nat) (ht : TabAt w a ms) (hlen : TabLen ms) (hn : ms.length ≤ 1048576) (hk : 1 ≤ k ∧ k ≤ (ms.length : Int)) : CallsR Try.prog 94 #[.slice a ms.length c, .int .i64 k, .agg #[.int .i64 l.s, .int .i64 l.v]] w (fun v w' => v = .bool (labelFlow (mAt ms (k - 1).toNat).t.lab l) ∧ w.grownBy w' none) := by
 refine calls_of_wpf (n := 15) Try.func94 rfl Try.ntmps94 rfl ?_
 have hb0 := World.grownBy.refl w none
 refine wpf_seq_region ?_
 refine wpo_box (v := .agg #[.int .i64 l.s, .int .i64 l.v]) (cs := #[.int .i64 l.s, .int .i64 l.v]) rfl rfl rfl ?_
 intro B101 w102 hN103
 have hlB101 := hN_ge hN103 hb0
 have hb104 := low0 hb0 hN103.grw
 refine wpo_assign (v := .bool false) rfl rfl ?_
 refine wpo_nil ?_
 refine wpf_seq ?_
 obtain ⟨b131, q132, o133, ha134, ho135, hr136⟩ := SlAt.at (TabAt.low ht hb104).1 (map_get (mAt_get (show (k - 1).toNat < ms.length by omega)))
 have hle137 := TabLen.at hlen (mAt_get (show (k - 1).toNat < ms.length by omega))
 refine wpf_draw (m := 7) (vals := [(7, .slice a ms.length c), (8, .int .i64 k), (9, .int .i64 (k - 1)), (10, .pointer (some ⟨b131, o133, none⟩)), (11, .pointer (some ⟨b131, o133 + 1, none⟩)), (12, .agg #[.int .i64 ((mAt ms ((k - 1).toNat)).t.lab.s), .int .i64 ((mAt ms ((k - 1).toNat)).t.lab.v)]), (13, .agg #[.int .i64 l.s, .int .i64 l.v])]) (fun w' => w102.grownBy w' none) mixed_ (by kernel_rfl) (grown_drew _) ?_ ?_
 ·
  refine yll_cons rfl (fun w141 hi142 => ?_) ?_
  ·
   have hb143 := low0 hb104 hi142
   refine wpo_move (v := .slice a ms.length c) rfl rfl ?_
   exact wpo_nil ⟨rfl, hi142⟩
  refine yll_cons rfl (fun w144 hi145 => ?_) ?_
  ·
   have hb146 := low0 hb104 hi145
   refine wpo_move (v := .int .i64 k) rfl rfl ?_
   exact wpo_nil ⟨rfl, hi145⟩
  refine yll_cons rfl (fun w147 hi148 => ?_) ?_
  ·
   have hb149 := low0 hb104 hi148
   refine wpo_sub (c := k - 1) rfl rfl (by omega) (by omega) (by omega) rfl ?_
   exact wpo_nil ⟨rfl, hi148⟩
  refine yll_cons rfl (fun w150 hi151 => ?_) ?_
  ·
   have hb152 := low0 hb104 hi151
   refine wpo_indexE es_54 rfl rfl ha134 ho135 (by omega) (by omega) rfl ?_
   exact wpo_nil ⟨rfl, hi151⟩
  refine yll_cons rfl (fun w153 hi154 => ?_) ?_
  ·
   have hb155 := low0 hb104 hi154
   refine wpo_fieldAddr (o' := o133 + 1) fo_45_1 rfl rfl rfl ?_
   exact wpo_nil ⟨rfl, hi154⟩
  refine yll_cons rfl (fun w156 hi157 => ?_) ?_
  ·
   have hb158 := low0 hb104 hi157
   refine wpo_loadn (vs := [.int .i64 ((mAt ms ((k - 1).toNat)).t.lab.s), .int .i64 ((mAt ms ((k - 1).toNat)).t.lab.v)]) rt_40 rfl rfl (range_sub (range_low hr136 hi157) 1 2 rfl) rfl ?_
   exact wpo_nil ⟨rfl, hi157⟩
  refine yll_cons rfl (fun w159 hi160 => ?_) ?_
  ·
   have hb161 := low0 hb104 hi160
   have k162 := (hN103.blk.grown0 hi160)
   refine wpo_loadn (vs := [.int .i64 l.s, .int .i64 l.v]) rt_40 rfl rfl (k162.rangeL 0 2 rfl) rfl ?_
   exact wpo_nil ⟨rfl, hi160⟩
  exact yll_nil
 ·
  intro w163 hi164
  have hb165 := low0 hb104 hi164
  refine wpo_call (vs := [.agg #[.int .i64 ((mAt ms ((k - 1).toNat)).t.lab.s), .int .i64 ((mAt ms ((k - 1).toNat)).t.lab.v)], .agg #[.int .i64 l.s, .int .i64 l.v]]) gf_36 (args_cons rfl (args_cons rfl args_nil)) rfl (LabelFlow_c ((mAt ms ((k - 1).toNat)).t.lab) l _) ?_
  rintro _ w166 ⟨rfl, hg167⟩
  have hb168 := low0 hb165 hg167
  refine wpo_assign (v := .bool (labelFlow ((mAt ms ((k - 1).toNat)).t.lab) l)) rfl rfl ?_
  refine wpo_nil ?_
  refine thn_n ?_
  refine wpf_ret ?_
  refine ⟨.bool (labelFlow ((mAt ms ((k - 1).toNat)).t.lab) l), res1 rfl rfl, ?_, hb168⟩
  rfl
theorem RunQuiet_c (l : Lab) (w : World) (ms : List MTh) (a : Option Addr) (c : Nat) (ht : TabAt w a ms) (hlen : TabLen ms) (hn : ms.length ≤ 1048576) (cs : List Cl) (b : Option Addr) (e : Nat) (hs : SlAt w b 5 (cs.map Cl.cells)) (hm : cs.length ≤ 1048576) : CallsR Try.prog 43 #[.slice a ms.length c, .slice b cs.length e, .agg #[.int .i64 l.s, .int .i64 l.v]] w (fun v w' => v = .bool (runQuiet (tabT ms) cs l) ∧ w.grownBy w' none) := by
 refine calls_of_wpf (n := 36) Try.func43 rfl Try.ntmps43 rfl ?_
 have hb0 := World.grownBy.refl w none
 refine wpf_seq_region ?_
 refine wpo_box (v := .agg #[.int .i64 l.s, .int .i64 l.v]) (cs := #[.int .i64 l.s, .int .i64 l.v]) rfl rfl rfl ?_
 intro B101 w102 hN103
 have hlB101 := hN_ge hN103 hb0
 have hb104 := low0 hb0 hN103.grw
 refine wpo_assign (v := .bool false) rfl rfl ?_
 refine wpo_nil ?_
 refine wpf_seq ?_
 refine wpf_seq_region_mid (fun f' w' => (f' 0 = .slice a ms.length c ∧ f' 1 = .slice b cs.length e ∧ f' 5 = .pointer (some ⟨B101, 0, none⟩) ∧ f' 6 = .bool false ∧ f' 17 = .bool ((!scriptOk (tabT ms) cs) || (!labelOk l))) ∧ w102.grownBy w' none) ?_ ?_
 ·
  refine wpo_move (v := .slice a ms.length c) rfl rfl ?_
  refine wpo_move (v := .slice b cs.length e) rfl rfl ?_
  refine wpo_call (vs := [.slice a ms.length c, .slice b cs.length e]) gf_93 (args_cons rfl (args_cons rfl args_nil)) rfl (scriptOk_c  _ ms _ _ (TabAt.low ht hb104) hlen (by omega) cs _ _ (SlAt.low hs hb104) (by first | omega | exact Nat.le_of_ble_eq_true rfl | (simp only [List.length_nil, List.length_cons, List.length_append, List.length_replicate]; omega))) ?_
  rintro _ w115 ⟨rfl, hg116⟩
  have hb117 := low0 hb104 hg116
  refine wpo_not (b' := !scriptOk (tabT ms) cs) rfl rfl rfl ?_
  refine wpo_move (v := .bool (!scriptOk (tabT ms) cs)) rfl rfl ?_
  rcases bcases (!scriptOk (tabT ms) cs) with h118 | h118
  ·
   have h119 := nt_t h118
   iterate 3 refine wpo_pass rfl rfl rfl h118 rfl ?_
   refine wpo_pickt (v := .bool true) rfl h118 rfl rfl ?_
   exact wpo_nil ⟨⟨rfl, rfl, rfl, rfl, (congrArg Value.bool (by first | (simp only [h118, h119, b0, b1, b2, b3, b4, b5, b6, b7, b8, b9]; done) | simp [h118, h119]))⟩, hg116⟩
  ·
   have h120 := nt_f h118
   have hrun121 := script_run h120
   have htk122 := (script_parts h120).1
   refine wpo_run rfl rfl rfl h118 ?_
   have k123 := (hN103.blk.grown0 hg116)
   refine wpo_loadn (vs := [.int .i64 l.s, .int .i64 l.v]) rt_40 rfl rfl (k123.rangeL 0 2 rfl) rfl ?_
   refine wpo_run rfl rfl rfl h118 ?_
   refine wpo_call (vs := [.agg #[.int .i64 l.s, .int .i64 l.v]]) gf_70 (args_cons rfl args_nil) rfl (LabelOk_c l _) ?_
   rintro _ w124 ⟨rfl, hg125⟩
   have hb126 := low0 hb117 hg125
   refine wpo_run rfl rfl rfl h118 ?_
   refine wpo_not (b' := !labelOk l) rfl rfl rfl ?_
   refine wpo_pickf (v := .bool (!labelOk l)) rfl h118 rfl rfl ?_
   exact wpo_nil ⟨⟨rfl, rfl, rfl, rfl, (congrArg Value.bool (by first | (simp only [h118, h120, htk122, b0, b1, b2, b3, b4, b5, b6, b7, b8, b9]; done) | simp [h118, h120, htk122]))⟩, (grown_trans hg116 hg125)⟩
 ·
  rintro f127 w128 ⟨⟨e129, e130, e131, e132, e133⟩, hg134⟩
  have hb135 := low0 hb104 hg134
  refine wpf_cond e133 (fun h136 => ?_) (fun h136 => ?_)
  ·
   refine wpf_seq_region ?_
   refine wpo_assign (v := .bool false) rfl rfl ?_
   refine wpo_nil ?_
   refine wpf_ret ?_
   refine thn_r ?_
   refine ⟨.bool false, res1 rfl rfl, ?_, hb135⟩
   exact congrArg Value.bool (quiet_no1 h136).symm
  ·
   have h137 := or_l h136
   have h138 := nt_f h137
   have hrun139 := script_run h138
   have htk140 := (script_parts h138).1
   have h141 := or_r h136
   have h142 := nt_f h141
   refine wpf_skip ?_
   refine thn_n ?_
   refine wpf_seq ?_
   refine wpf_seq_region ?_
   refine wpo_move (v := .slice b cs.length e) e130 rfl ?_
   refine wpo_len (by kernel_rfl) rfl rfl ?_
   refine wpo_move (v := .int .i64 0) rfl rfl ?_
   refine wpo_nil ?_
   refine wpf_block ?_
   have k143 := (hN103.blk.grown0 hg134)
   refine wpf_loopN (fun mm f' w' => ∃ (k : Nat), mm = cs.length - k ∧ k ≤ cs.length ∧ ((cs.take k).all (quietOf (tabT ms) l)) = true ∧ f' 20 = .int .i64 (k : Int) ∧ f' 0 = .slice a ms.length c ∧ f' 5 = .pointer (some ⟨B101, 0, none⟩) ∧ f' 18 = .slice b cs.length e ∧ f' 19 = .int .i64 (cs.length : Int) ∧ w.grownBy w' none ∧ Blk w' B101 40 #[.int .i64 l.s, .int .i64 l.v]) (cs.length - 0) ⟨0, rfl, (Nat.zero_le _), rfl, rfl, e129, e131, rfl, rfl, hb135, k143⟩ ?_
   rintro mm f144 w145 ⟨k, hm147, hk, hall, e148, e149, e150, e151, e152, hb146, k153⟩
   refine wpf_seq_region ?_
   refine wpo_lss (q := decide ((k : Int) < (cs.length : Int))) e148 e152 rfl rfl ?_
   refine wpo_nil ?_
   refine wpf_seq ?_
   refine wpf_cond rfl (fun h154 => ?_) (fun h154 => ?_)
   ·
    have h155 := of_decide_eq_true h154
    refine wpf_skip ?_
    refine thn_n ?_
    refine wpf_seq ?_
    refine wpf_block ?_
    refine wpf_seq_region ?_
    obtain ⟨b158, q159, o160, ha161, ho162, hr163⟩ := SlAt.at (SlAt.low hs hb146) (map_get (cAt_get (show k < cs.length by omega)))
    have hcf164 := hrun139 k (show k < cs.length by omega)
    refine wpo_indexE es_69 e151 e148 ha161 ho162 (by omega) (by omega) rfl ?_
    refine wpo_loadn (vs := [.int .i64 ((cAt cs k).kind), .int .i64 ((cAt cs k).run), .int .i64 ((cAt cs k).a), .int .i64 ((cAt cs k).b), .int .i64 ((cAt cs k).n)]) rt_76 rfl rfl (range_sub hr163 0 5 rfl) rfl ?_
    refine wpo_alloc (cs := #[.int .i64 0, .int .i64 0, .int .i64 0, .int .i64 0, .int .i64 0]) zt_76 rfl rfl ?_
    intro B165 w166 hN167
    have hlB165 := hN_ge hN167 hb146
    have lt_B101_B165 := hN_gtl hN167 (k153).lt
    have hb168 := low0 hb146 hN167.grw
    refine wpo_storen (vs := [.int .i64 ((cAt cs k).kind), .int .i64 ((cAt cs k).run), .int .i64 ((cAt cs k).a), .int .i64 ((cAt cs k).b), .int .i64 ((cAt cs k).n)]) (cs' := #[.int .i64 ((cAt cs k).kind), .int .i64 ((cAt cs k).run), .int .i64 ((cAt cs k).a), .int .i64 ((cAt cs k).b), .int .i64 ((cAt cs k).n)]) rt_76 rfl rfl rfl (by simp [Value.oneCell']) hN167.blk (Nat.le_of_ble_eq_true rfl) rfl ?_
    intro w169 hS170
    have hb171 := low1 hb168 hS170.grw (by omega)
    refine wpo_nil ?_
    refine wpf_seq_region_mid (fun f' w' => (f' 0 = .slice a ms.length c ∧ f' 5 = .pointer (some ⟨B101, 0, none⟩) ∧ f' 18 = .slice b cs.length e ∧ f' 19 = .int .i64 (cs.length : Int) ∧ f' 20 = .int .i64 (k : Int) ∧ f' 34 = .bool ((decide ((cAt cs k).kind = 9)) && (!labelFlow (mAt ms (((cAt cs k).run) - 1).toNat).t.lab l))) ∧ w169.grownBy w' none) ?_ ?_
    ·
     refine wpo_fieldAddr (o' := 0) fo_76_0 rfl rfl rfl ?_
     refine wpo_load1 (v := .int .i64 ((cAt cs k).kind)) ot_3 rfl (hS170.blk.cell rfl) rfl ?_
     refine wpo_eql (q := decide ((cAt cs k).kind = 9)) rfl rfl rfl rfl ?_
     refine wpo_move (v := .bool (decide ((cAt cs k).kind = 9))) rfl rfl ?_
     rcases bcases (decide ((cAt cs k).kind = 9)) with h176 | h176
     ·
      have h177 := of_decide_eq_true h176
      refine wpo_run rfl rfl rfl h176 ?_
      refine wpo_move (v := .slice a ms.length c) e149 rfl ?_
      refine wpo_run rfl rfl rfl h176 ?_
      refine wpo_fieldAddr (o' := 1) fo_76_1 rfl rfl rfl ?_
      refine wpo_run rfl rfl rfl h176 ?_
      refine wpo_load1 (v := .int .i64 ((cAt cs k).run)) ot_3 rfl (hS170.blk.cell rfl) rfl ?_
      refine wpo_run rfl rfl rfl h176 ?_
      have k178 := ((k153.grown0 hN167.grw).grown hS170.grw (some_ne (by omega)))
      refine wpo_loadn (vs := [.int .i64 l.s, .int .i64 l.v]) rt_40 e150 rfl (k178.rangeL 0 2 rfl) rfl ?_
      refine wpo_run rfl rfl rfl h176 ?_
      refine wpo_call (vs := [.slice a ms.length c, .int .i64 ((cAt cs k).run), .agg #[.int .i64 l.s, .int .i64 l.v]]) gf_94 (args_cons rfl (args_cons rfl (args_cons rfl args_nil))) rfl (runLow1_c ((cAt cs k).run) l _ ms _ _ (TabAt.low ht hb171) hlen (by omega) (by omega)) ?_
      rintro _ w179 ⟨rfl, hg180⟩
      have hb181 := low0 hb171 hg180
      refine wpo_run rfl rfl rfl h176 ?_
      refine wpo_not (b' := !labelFlow (mAt ms (((cAt cs k).run) - 1).toNat).t.lab l) rfl rfl rfl ?_
      refine wpo_pickt (v := .bool (!labelFlow (mAt ms (((cAt cs k).run) - 1).toNat).t.lab l)) rfl h176 rfl rfl ?_
      exact wpo_nil ⟨⟨e149, e150, e151, e152, e148, (congrArg Value.bool (by first | (simp only [h136, h137, h138, h141, h142, h154, h176, htk140, b0, b1, b2, b3, b4, b5, b6, b7, b8, b9]; done) | simp [h136, h137, h138, h141, h142, h154, h176, htk140]))⟩, hg180⟩
     ·
      have h182 := of_decide_eq_false h176
      iterate 6 refine wpo_pass rfl rfl rfl h176 rfl ?_
      refine wpo_pickf (v := .bool false) rfl h176 rfl rfl ?_
      exact wpo_nil ⟨⟨e149, e150, e151, e152, e148, (congrArg Value.bool (by first | (simp only [h136, h137, h138, h141, h142, h154, h176, htk140, b0, b1, b2, b3, b4, b5, b6, b7, b8, b9]; done) | simp [h136, h137, h138, h141, h142, h154, h176, htk140]))⟩, (World.grownBy.refl _ _)⟩
    ·
     rintro f183 w184 ⟨⟨e185, e186, e187, e188, e189, e190⟩, hg191⟩
     have hb192 := low0 hb171 hg191
     refine wpf_cond e190 (fun h193 => ?_) (fun h193 => ?_)
     ·
      have h194 := and_l h193
      have h195 := of_decide_eq_true h194
      have h196 := and_r h193
      have h197 := nt_t h196
      refine wpf_seq_region ?_
      refine wpo_assign (v := .bool false) rfl rfl ?_
      refine wpo_nil ?_
      refine wpf_ret ?_
      refine blk_r ?_
      refine thn_r ?_
      refine thn_r ?_
      refine blk_r ?_
      refine thn_r ?_
      refine ⟨.bool false, res1 rfl rfl, ?_, hb192⟩
      exact congrArg Value.bool (quiet_no2 (k := k) (cAt_get (by omega)) (by unfold quietOf; rw [← low_i htk140 h142 (by omega) (by omega), h193]; rfl)).symm
     ·
      refine wpf_skip ?_
      refine blk_n ?_
      refine thn_n ?_
      refine wpf_region ?_
      refine wpo_add (c := (k : Int) + 1) e189 rfl (by omega) (by omega) (by omega) rfl ?_
      refine wpo_move (v := .int .i64 ((k : Int) + 1)) rfl rfl ?_
      refine wpo_nil ?_
      refine thn_n ?_
      have k198 := (((k153.grown0 hN167.grw).grown hS170.grw (some_ne (by omega))).grown0 hg191)
      exact ⟨cs.length - (k + 1), by omega, (k + 1), rfl, (by omega), (take_all_succ (p := quietOf (tabT ms) l) hall (cAt_get (by omega)) (by unfold quietOf; rw [← low_i htk140 h142 (by omega) (by omega), h193]; rfl)), rfl, e185, e186, e187, e188, hb192, k198⟩
   ·
    have h199 := of_decide_eq_false h154
    refine wpf_exit ?_
    refine thn_e ?_
    refine thn_e ?_
    refine blk_e ?_
    refine thn_n ?_
    refine wpf_seq_region ?_
    refine wpo_assign (v := .bool true) rfl rfl ?_
    refine wpo_nil ?_
    refine wpf_ret ?_
    refine ⟨.bool true, res1 rfl rfl, ?_, hb146⟩
    exact congrArg Value.bool (quiet_yes h136 hall (by omega)).symm
theorem sRunQuiet_c (l : Lab) (w : World) (ms : List MTh) (a : Option Addr) (c : Nat) (ht : TabAt w a ms) (hlen : TabLen ms) (hn : ms.length ≤ 1048576) (cs : List Cl) (b : Option Addr) (e : Nat) (hs : SlAt w b 5 (cs.map Cl.cells)) (hm : cs.length ≤ 1048576) : CallsR Try.prog 41 #[.slice a ms.length c, .slice b cs.length e, .agg #[.int .i64 l.s, .int .i64 l.v]] w (fun v w' => v = .bool (runQuiet (tabT ms) cs l) ∧ w.grownBy w' none) := by
 refine calls_of_wpf (n := 49) Try.func41 rfl Try.ntmps41 rfl ?_
 have hb0 := World.grownBy.refl w none
 refine wpf_seq_region ?_
 refine wpo_box (v := .agg #[.int .i64 l.s, .int .i64 l.v]) (cs := #[.int .i64 l.s, .int .i64 l.v]) rfl rfl rfl ?_
 intro B101 w102 hN103
 have hlB101 := hN_ge hN103 hb0
 have hb104 := low0 hb0 hN103.grw
 refine wpo_assign (v := .bool false) rfl rfl ?_
 refine wpo_nil ?_
 refine wpf_seq ?_
 refine wpf_seq_region_mid (fun f' w' => (f' 0 = .slice a ms.length c ∧ f' 1 = .slice b cs.length e ∧ f' 5 = .pointer (some ⟨B101, 0, none⟩) ∧ f' 6 = .bool false ∧ f' 21 = .bool (((!tableOk (tabT ms)) || (!callsIn_ (tabT ms) cs)) || (!labelOk l))) ∧ w102.grownBy w' none) ?_ ?_
 ·
  refine wpo_move (v := .slice a ms.length c) rfl rfl ?_
  refine wpo_call (vs := [.slice a ms.length c]) gf_34 (args_cons rfl args_nil) rfl (sTableOk_c  _ ms _ _ (TabAt.low ht hb104) hlen (by omega)) ?_
  rintro _ w118 ⟨rfl, hg119⟩
  have hb120 := low0 hb104 hg119
  refine wpo_not (b' := !tableOk (tabT ms)) rfl rfl rfl ?_
  refine wpo_move (v := .bool (!tableOk (tabT ms))) rfl rfl ?_
  rcases bcases (!tableOk (tabT ms)) with h121 | h121
  ·
   have h122 := nt_t h121
   iterate 4 refine wpo_pass rfl rfl rfl h121 rfl ?_
   refine wpo_pickt (v := .bool true) rfl h121 rfl rfl ?_
   refine wpo_move (v := .bool true) rfl rfl ?_
   iterate 3 refine wpo_pass rfl rfl rfl rfl rfl ?_
   refine wpo_pickt (v := .bool true) rfl rfl rfl rfl ?_
   exact wpo_nil ⟨⟨rfl, rfl, rfl, rfl, (congrArg Value.bool (by first | (simp only [h121, h122, b0, b1, b2, b3, b4, b5, b6, b7, b8, b9]; done) | simp [h121, h122]))⟩, hg119⟩
  ·
   have h123 := nt_f h121
   refine wpo_run rfl rfl rfl h121 ?_
   refine wpo_move (v := .slice a ms.length c) rfl rfl ?_
   refine wpo_run rfl rfl rfl h121 ?_
   refine wpo_move (v := .slice b cs.length e) rfl rfl ?_
   refine wpo_run rfl rfl rfl h121 ?_
   refine wpo_call (vs := [.slice a ms.length c, .slice b cs.length e]) gf_91 (args_cons rfl (args_cons rfl args_nil)) rfl (l21Calls_c  _ ms _ _ (TabAt.low ht hb120) hlen (by omega) cs _ _ (SlAt.low hs hb120) (by first | omega | exact Nat.le_of_ble_eq_true rfl | (simp only [List.length_nil, List.length_cons, List.length_append, List.length_replicate]; omega))) ?_
   rintro _ w124 ⟨rfl, hg125⟩
   have hb126 := low0 hb120 hg125
   refine wpo_run rfl rfl rfl h121 ?_
   refine wpo_not (b' := !callsIn_ (tabT ms) cs) rfl rfl rfl ?_
   refine wpo_pickf (v := .bool (!callsIn_ (tabT ms) cs)) rfl h121 rfl rfl ?_
   refine wpo_move (v := .bool (!callsIn_ (tabT ms) cs)) rfl rfl ?_
   rcases bcases (!callsIn_ (tabT ms) cs) with h127 | h127
   ·
    have h128 := nt_t h127
    iterate 3 refine wpo_pass rfl rfl rfl h127 rfl ?_
    refine wpo_pickt (v := .bool true) rfl h127 rfl rfl ?_
    exact wpo_nil ⟨⟨rfl, rfl, rfl, rfl, (congrArg Value.bool (by first | (simp only [h121, h123, h127, h128, b0, b1, b2, b3, b4, b5, b6, b7, b8, b9]; done) | simp [h121, h123, h127, h128]))⟩, (grown_trans hg119 hg125)⟩
   ·
    have h129 := nt_f h127
    have hsc130 : scriptOk (tabT ms) cs = true := by unfold scriptOk; rw [h123, h129]; rfl
    have hrun131 := script_run hsc130
    refine wpo_run rfl rfl rfl h127 ?_
    have k132 := ((hN103.blk.grown0 hg119).grown0 hg125)
    refine wpo_loadn (vs := [.int .i64 l.s, .int .i64 l.v]) rt_40 rfl rfl (k132.rangeL 0 2 rfl) rfl ?_
    refine wpo_run rfl rfl rfl h127 ?_
    refine wpo_call (vs := [.agg #[.int .i64 l.s, .int .i64 l.v]]) gf_35 (args_cons rfl args_nil) rfl (sLabelOk_c l _) ?_
    rintro _ w133 ⟨rfl, hg134⟩
    have hb135 := low0 hb126 hg134
    refine wpo_run rfl rfl rfl h127 ?_
    refine wpo_not (b' := !labelOk l) rfl rfl rfl ?_
    refine wpo_pickf (v := .bool (!labelOk l)) rfl h127 rfl rfl ?_
    exact wpo_nil ⟨⟨rfl, rfl, rfl, rfl, (congrArg Value.bool (by first | (simp only [h121, h123, h127, h129, b0, b1, b2, b3, b4, b5, b6, b7, b8, b9]; done) | simp [h121, h123, h127, h129]))⟩, (grown_trans (grown_trans hg119 hg125) hg134)⟩
 ·
  rintro f136 w137 ⟨⟨e138, e139, e140, e141, e142⟩, hg143⟩
  have hb144 := low0 hb104 hg143
  refine wpf_cond e142 (fun h145 => ?_) (fun h145 => ?_)
  ·
   refine wpf_seq_region ?_
   refine wpo_assign (v := .bool false) rfl rfl ?_
   refine wpo_nil ?_
   refine wpf_ret ?_
   refine thn_r ?_
   refine ⟨.bool false, res1 rfl rfl, ?_, hb144⟩
   exact congrArg Value.bool (quiet_no1 (script_s.trans h145)).symm
  ·
   have h146 := or_l h145
   have h147 := or_l h146
   have h148 := nt_f h147
   have h149 := or_r h146
   have h150 := nt_f h149
   have hsc151 : scriptOk (tabT ms) cs = true := by unfold scriptOk; rw [h148, h150]; rfl
   have hrun152 := script_run hsc151
   have h153 := or_r h145
   have h154 := nt_f h153
   refine wpf_skip ?_
   refine thn_n ?_
   refine wpf_seq ?_
   refine wpf_seq_region ?_
   refine wpo_assign (v := .int .i64 0) rfl rfl ?_
   refine wpo_nil ?_
   refine wpf_block ?_
   have k155 := (hN103.blk.grown0 hg143)
   refine wpf_loopN (fun mm f' w' => ∃ (k : Nat), mm = cs.length - k ∧ k ≤ cs.length ∧ ((cs.take k).all (quietOf (tabT ms) l)) = true ∧ f' 7 = .int .i64 (k : Int) ∧ f' 0 = .slice a ms.length c ∧ f' 1 = .slice b cs.length e ∧ f' 5 = .pointer (some ⟨B101, 0, none⟩) ∧ w.grownBy w' none ∧ Blk w' B101 40 #[.int .i64 l.s, .int .i64 l.v]) (cs.length - 0) ⟨0, rfl, (Nat.zero_le _), rfl, rfl, e138, e139, e140, hb144, k155⟩ ?_
   rintro mm f156 w157 ⟨k, hm159, hk, hall, e160, e161, e162, e163, hb158, k164⟩
   refine wpf_seq ?_
   refine wpf_seq_region ?_
   refine wpo_move (v := .int .i64 (k : Int)) e160 rfl ?_
   refine wpo_move (v := .slice b cs.length e) e162 rfl ?_
   refine wpo_len (by kernel_rfl) rfl rfl ?_
   refine wpo_lss (q := decide ((k : Int) < (cs.length : Int))) rfl rfl rfl rfl ?_
   refine wpo_nil ?_
   refine wpf_cond rfl (fun h165 => ?_) (fun h165 => ?_)
   ·
    have h166 := of_decide_eq_true h165
    refine wpf_skip ?_
    refine thn_n ?_
    refine wpf_seq ?_
    refine wpf_block ?_
    refine wpf_seq_mid (fun f' w' => (f' 0 = .slice a ms.length c ∧ f' 1 = .slice b cs.length e ∧ f' 5 = .pointer (some ⟨B101, 0, none⟩) ∧ f' 7 = .int .i64 (k : Int) ∧ f' 48 = .bool ((decide ((cAt cs k).kind = 9)) && (!flow ((mAt ms ((((cAt cs k).run) - 1).toNat)).t.lab) l))) ∧ w157.grownBy w' none) ?_ ?_
    ·
     rcases bcases (decide ((cAt cs k).kind = 9)) with h206 | h206
     ·
      have h207 := of_decide_eq_true h206
      obtain ⟨b231, q232, o233, ha234, ho235, hr236⟩ := SlAt.at (SlAt.low hs hb158) (map_get (cAt_get (show k < cs.length by omega)))
      have hcf237 := hrun152 k (show k < cs.length by omega)
      obtain ⟨b240, q241, o242, ha243, ho244, hr245⟩ := SlAt.at (TabAt.low ht hb158).1 (map_get (mAt_get (show (((cAt cs k).run) - 1).toNat < ms.length by omega)))
      have hle246 := TabLen.at hlen (mAt_get (show (((cAt cs k).run) - 1).toNat < ms.length by omega))
      refine wpf_draw (m := 18) (vals := [(28, .slice b cs.length e), (29, .int .i64 (k : Int)), (30, .pointer (some ⟨b231, o233, none⟩)), (31, .pointer (some ⟨b231, o233, none⟩)), (32, .int .i64 ((cAt cs k).kind)), (33, .bool (decide ((cAt cs k).kind = 9))), (34, .bool (decide ((cAt cs k).kind = 9))), (35, .slice a ms.length c), (36, .slice b cs.length e), (37, .int .i64 (k : Int)), (38, .pointer (some ⟨b231, o233, none⟩)), (39, .pointer (some ⟨b231, o233 + 1, none⟩)), (40, .int .i64 ((cAt cs k).run)), (41, .int .i64 (((cAt cs k).run) - 1)), (42, .pointer (some ⟨b240, o242, none⟩)), (43, .pointer (some ⟨b240, o242 + 1, none⟩)), (44, .agg #[.int .i64 ((mAt ms ((((cAt cs k).run) - 1).toNat)).t.lab.s), .int .i64 ((mAt ms ((((cAt cs k).run) - 1).toNat)).t.lab.v)]), (45, .agg #[.int .i64 l.s, .int .i64 l.v])]) (fun w' => w157.grownBy w' none) mixed_ (by kernel_rfl) (grown_drew _) ?_ ?_
      ·
       refine yll_cons rfl (fun w250 hi251 => ?_) ?_
       ·
        have hb252 := low0 hb158 hi251
        refine wpo_move (v := .slice b cs.length e) e162 rfl ?_
        exact wpo_nil ⟨rfl, hi251⟩
       refine yll_cons rfl (fun w253 hi254 => ?_) ?_
       ·
        have hb255 := low0 hb158 hi254
        refine wpo_move (v := .int .i64 (k : Int)) e160 rfl ?_
        exact wpo_nil ⟨rfl, hi254⟩
       refine yll_cons rfl (fun w256 hi257 => ?_) ?_
       ·
        have hb258 := low0 hb158 hi257
        refine wpo_indexE es_69 rfl rfl ha234 ho235 (by omega) (by omega) rfl ?_
        exact wpo_nil ⟨rfl, hi257⟩
       refine yll_cons rfl (fun w259 hi260 => ?_) ?_
       ·
        have hb261 := low0 hb158 hi260
        refine wpo_fieldAddr (o' := o233) fo_76_0 rfl rfl rfl ?_
        exact wpo_nil ⟨rfl, hi260⟩
       refine yll_cons rfl (fun w262 hi263 => ?_) ?_
       ·
        have hb264 := low0 hb158 hi263
        refine wpo_load1 (v := .int .i64 ((cAt cs k).kind)) ot_3 rfl ((range_low hr236 hi263) 0 _ rfl) rfl ?_
        exact wpo_nil ⟨rfl, hi263⟩
       refine yll_cons rfl (fun w265 hi266 => ?_) ?_
       ·
        have hb267 := low0 hb158 hi266
        refine wpo_eql (q := decide ((cAt cs k).kind = 9)) rfl rfl rfl rfl ?_
        exact wpo_nil ⟨rfl, hi266⟩
       refine yll_cons rfl (fun w268 hi269 => ?_) ?_
       ·
        have hb270 := low0 hb158 hi269
        refine wpo_move (v := .bool (decide ((cAt cs k).kind = 9))) rfl rfl ?_
        exact wpo_nil ⟨rfl, hi269⟩
       refine yll_cons rfl (fun w271 hi272 => ?_) ?_
       ·
        have hb273 := low0 hb158 hi272
        refine wpo_run rfl rfl rfl h206 ?_
        refine wpo_move (v := .slice a ms.length c) e161 rfl ?_
        exact wpo_nil ⟨rfl, hi272⟩
       refine yll_cons rfl (fun w274 hi275 => ?_) ?_
       ·
        have hb276 := low0 hb158 hi275
        refine wpo_run rfl rfl rfl h206 ?_
        refine wpo_move (v := .slice b cs.length e) e162 rfl ?_
        exact wpo_nil ⟨rfl, hi275⟩
       refine yll_cons rfl (fun w277 hi278 => ?_) ?_
       ·
        have hb279 := low0 hb158 hi278
        refine wpo_run rfl rfl rfl h206 ?_
        refine wpo_move (v := .int .i64 (k : Int)) e160 rfl ?_
        exact wpo_nil ⟨rfl, hi278⟩
       refine yll_cons rfl (fun w280 hi281 => ?_) ?_
       ·
        have hb282 := low0 hb158 hi281
        refine wpo_run rfl rfl rfl h206 ?_
        refine wpo_indexE es_69 rfl rfl ha234 ho235 (by omega) (by omega) rfl ?_
        exact wpo_nil ⟨rfl, hi281⟩
       refine yll_cons rfl (fun w283 hi284 => ?_) ?_
       ·
        have hb285 := low0 hb158 hi284
        refine wpo_run rfl rfl rfl h206 ?_
        refine wpo_fieldAddr (o' := o233 + 1) fo_76_1 rfl rfl rfl ?_
        exact wpo_nil ⟨rfl, hi284⟩
       refine yll_cons rfl (fun w286 hi287 => ?_) ?_
       ·
        have hb288 := low0 hb158 hi287
        refine wpo_run rfl rfl rfl h206 ?_
        refine wpo_load1 (v := .int .i64 ((cAt cs k).run)) ot_3 rfl ((range_low hr236 hi287) 1 _ rfl) rfl ?_
        exact wpo_nil ⟨rfl, hi287⟩
       refine yll_cons rfl (fun w289 hi290 => ?_) ?_
       ·
        have hb291 := low0 hb158 hi290
        refine wpo_run rfl rfl rfl h206 ?_
        refine wpo_sub (c := ((cAt cs k).run) - 1) rfl rfl (by omega) (by omega) (by omega) rfl ?_
        exact wpo_nil ⟨rfl, hi290⟩
       refine yll_cons rfl (fun w292 hi293 => ?_) ?_
       ·
        have hb294 := low0 hb158 hi293
        refine wpo_run rfl rfl rfl h206 ?_
        refine wpo_indexE es_54 rfl rfl ha243 ho244 (by omega) (by omega) rfl ?_
        exact wpo_nil ⟨rfl, hi293⟩
       refine yll_cons rfl (fun w295 hi296 => ?_) ?_
       ·
        have hb297 := low0 hb158 hi296
        refine wpo_run rfl rfl rfl h206 ?_
        refine wpo_fieldAddr (o' := o242 + 1) fo_45_1 rfl rfl rfl ?_
        exact wpo_nil ⟨rfl, hi296⟩
       refine yll_cons rfl (fun w298 hi299 => ?_) ?_
       ·
        have hb300 := low0 hb158 hi299
        refine wpo_run rfl rfl rfl h206 ?_
        refine wpo_loadn (vs := [.int .i64 ((mAt ms ((((cAt cs k).run) - 1).toNat)).t.lab.s), .int .i64 ((mAt ms ((((cAt cs k).run) - 1).toNat)).t.lab.v)]) rt_40 rfl rfl (range_sub (range_low hr245 hi299) 1 2 rfl) rfl ?_
        exact wpo_nil ⟨rfl, hi299⟩
       refine yll_cons rfl (fun w301 hi302 => ?_) ?_
       ·
        have hb303 := low0 hb158 hi302
        refine wpo_run rfl rfl rfl h206 ?_
        have k304 := (k164.grown0 hi302)
        refine wpo_loadn (vs := [.int .i64 l.s, .int .i64 l.v]) rt_40 e163 rfl (k304.rangeL 0 2 rfl) rfl ?_
        exact wpo_nil ⟨rfl, hi302⟩
       exact yll_nil
      ·
       intro w305 hi306
       have hb307 := low0 hb158 hi306
       refine wpo_run rfl rfl rfl h206 ?_
       have hl308 : labelOk ((mAt ms ((((cAt cs k).run) - 1).toNat)).t.lab) = true := tab_lab h148 (show ((((cAt cs k).run) - 1).toNat) < ms.length by omega)
       refine wpo_call (vs := [.agg #[.int .i64 ((mAt ms ((((cAt cs k).run) - 1).toNat)).t.lab.s), .int .i64 ((mAt ms ((((cAt cs k).run) - 1).toNat)).t.lab.v)], .agg #[.int .i64 l.s, .int .i64 l.v]]) gf_86 (args_cons rfl (args_cons rfl args_nil)) rfl (l1Flow_c ((mAt ms ((((cAt cs k).run) - 1).toNat)).t.lab) l hl308 h154 _) ?_
       rintro _ w309 ⟨rfl, hg310⟩
       have hb311 := low0 hb307 hg310
       refine wpo_run rfl rfl rfl h206 ?_
       refine wpo_not (b' := !flow ((mAt ms ((((cAt cs k).run) - 1).toNat)).t.lab) l) rfl rfl rfl ?_
       refine wpo_pickt (v := .bool (!flow ((mAt ms ((((cAt cs k).run) - 1).toNat)).t.lab) l)) rfl h206 rfl rfl ?_
       exact wpo_nil (thn_n ⟨⟨e161, e162, e163, e160, (congrArg Value.bool (by first | (simp only [h145, h146, h147, h148, h149, h150, h153, h154, h165, h206, hl308, b0, b1, b2, b3, b4, b5, b6, b7, b8, b9]; done) | simp [h145, h146, h147, h148, h149, h150, h153, h154, h165, h206, hl308]))⟩, (grown_trans hi306 hg310)⟩)
     ·
      have h312 := of_decide_eq_false h206
      obtain ⟨b324, q325, o326, ha327, ho328, hr329⟩ := SlAt.at (SlAt.low hs hb158) (map_get (cAt_get (show k < cs.length by omega)))
      have hcf330 := hrun152 k (show k < cs.length by omega)
      refine wpf_draw (m := 18) (vals := [(28, .slice b cs.length e), (29, .int .i64 (k : Int)), (30, .pointer (some ⟨b324, o326, none⟩)), (31, .pointer (some ⟨b324, o326, none⟩)), (32, .int .i64 ((cAt cs k).kind)), (33, .bool (decide ((cAt cs k).kind = 9))), (34, .bool (decide ((cAt cs k).kind = 9))), (35, undef), (36, undef), (37, undef), (38, undef), (39, undef), (40, undef), (41, undef), (42, undef), (43, undef), (44, undef), (45, undef)]) (fun w' => w157.grownBy w' none) mixed_ (by kernel_rfl) (grown_drew _) ?_ ?_
      ·
       refine yll_cons rfl (fun w331 hi332 => ?_) ?_
       ·
        have hb333 := low0 hb158 hi332
        refine wpo_move (v := .slice b cs.length e) e162 rfl ?_
        exact wpo_nil ⟨rfl, hi332⟩
       refine yll_cons rfl (fun w334 hi335 => ?_) ?_
       ·
        have hb336 := low0 hb158 hi335
        refine wpo_move (v := .int .i64 (k : Int)) e160 rfl ?_
        exact wpo_nil ⟨rfl, hi335⟩
       refine yll_cons rfl (fun w337 hi338 => ?_) ?_
       ·
        have hb339 := low0 hb158 hi338
        refine wpo_indexE es_69 rfl rfl ha327 ho328 (by omega) (by omega) rfl ?_
        exact wpo_nil ⟨rfl, hi338⟩
       refine yll_cons rfl (fun w340 hi341 => ?_) ?_
       ·
        have hb342 := low0 hb158 hi341
        refine wpo_fieldAddr (o' := o326) fo_76_0 rfl rfl rfl ?_
        exact wpo_nil ⟨rfl, hi341⟩
       refine yll_cons rfl (fun w343 hi344 => ?_) ?_
       ·
        have hb345 := low0 hb158 hi344
        refine wpo_load1 (v := .int .i64 ((cAt cs k).kind)) ot_3 rfl ((range_low hr329 hi344) 0 _ rfl) rfl ?_
        exact wpo_nil ⟨rfl, hi344⟩
       refine yll_cons rfl (fun w346 hi347 => ?_) ?_
       ·
        have hb348 := low0 hb158 hi347
        refine wpo_eql (q := decide ((cAt cs k).kind = 9)) rfl rfl rfl rfl ?_
        exact wpo_nil ⟨rfl, hi347⟩
       refine yll_cons rfl (fun w349 hi350 => ?_) ?_
       ·
        have hb351 := low0 hb158 hi350
        refine wpo_move (v := .bool (decide ((cAt cs k).kind = 9))) rfl rfl ?_
        exact wpo_nil ⟨rfl, hi350⟩
       refine yll_cons rfl (fun w352 hi353 => ?_) ?_
       ·
        have hb354 := low0 hb158 hi353
        refine wpo_pass rfl rfl rfl h206 rfl ?_
        exact wpo_nil ⟨rfl, hi353⟩
       refine yll_cons rfl (fun w355 hi356 => ?_) ?_
       ·
        have hb357 := low0 hb158 hi356
        refine wpo_pass rfl rfl rfl h206 rfl ?_
        exact wpo_nil ⟨rfl, hi356⟩
       refine yll_cons rfl (fun w358 hi359 => ?_) ?_
       ·
        have hb360 := low0 hb158 hi359
        refine wpo_pass rfl rfl rfl h206 rfl ?_
        exact wpo_nil ⟨rfl, hi359⟩
       refine yll_cons rfl (fun w361 hi362 => ?_) ?_
       ·
        have hb363 := low0 hb158 hi362
        refine wpo_pass rfl rfl rfl h206 rfl ?_
        exact wpo_nil ⟨rfl, hi362⟩
       refine yll_cons rfl (fun w364 hi365 => ?_) ?_
       ·
        have hb366 := low0 hb158 hi365
        refine wpo_pass rfl rfl rfl h206 rfl ?_
        exact wpo_nil ⟨rfl, hi365⟩
       refine yll_cons rfl (fun w367 hi368 => ?_) ?_
       ·
        have hb369 := low0 hb158 hi368
        refine wpo_pass rfl rfl rfl h206 rfl ?_
        exact wpo_nil ⟨rfl, hi368⟩
       refine yll_cons rfl (fun w370 hi371 => ?_) ?_
       ·
        have hb372 := low0 hb158 hi371
        refine wpo_pass rfl rfl rfl h206 rfl ?_
        exact wpo_nil ⟨rfl, hi371⟩
       refine yll_cons rfl (fun w373 hi374 => ?_) ?_
       ·
        have hb375 := low0 hb158 hi374
        refine wpo_pass rfl rfl rfl h206 rfl ?_
        exact wpo_nil ⟨rfl, hi374⟩
       refine yll_cons rfl (fun w376 hi377 => ?_) ?_
       ·
        have hb378 := low0 hb158 hi377
        refine wpo_pass rfl rfl rfl h206 rfl ?_
        exact wpo_nil ⟨rfl, hi377⟩
       refine yll_cons rfl (fun w379 hi380 => ?_) ?_
       ·
        have hb381 := low0 hb158 hi380
        refine wpo_pass rfl rfl rfl h206 rfl ?_
        exact wpo_nil ⟨rfl, hi380⟩
       refine yll_cons rfl (fun w382 hi383 => ?_) ?_
       ·
        have hb384 := low0 hb158 hi383
        refine wpo_pass rfl rfl rfl h206 rfl ?_
        exact wpo_nil ⟨rfl, hi383⟩
       exact yll_nil
      ·
       intro w385 hi386
       have hb387 := low0 hb158 hi386
       refine wpo_pass rfl rfl rfl h206 rfl ?_
       refine wpo_pass rfl rfl rfl h206 rfl ?_
       refine wpo_pickf (v := .bool false) rfl h206 rfl rfl ?_
       exact wpo_nil (thn_n ⟨⟨e161, e162, e163, e160, (congrArg Value.bool (by first | (simp only [h145, h146, h147, h148, h149, h150, h153, h154, h165, h206, b0, b1, b2, b3, b4, b5, b6, b7, b8, b9]; done) | simp [h145, h146, h147, h148, h149, h150, h153, h154, h165, h206]))⟩, hi386⟩)
    ·
     rintro f388 w389 ⟨⟨e390, e391, e392, e393, e394⟩, hg395⟩
     have hb396 := low0 hb158 hg395
     refine wpf_cond e394 (fun h397 => ?_) (fun h397 => ?_)
     ·
      have h398 := and_l h397
      have h399 := of_decide_eq_true h398
      have h400 := and_r h397
      have h401 := nt_t h400
      refine wpf_seq_region ?_
      refine wpo_assign (v := .bool false) rfl rfl ?_
      refine wpo_nil ?_
      refine wpf_ret ?_
      refine blk_r ?_
      refine thn_r ?_
      refine thn_r ?_
      refine blk_r ?_
      refine thn_r ?_
      refine ⟨.bool false, res1 rfl rfl, ?_, hb396⟩
      exact congrArg Value.bool (quiet_no2 (k := k) (cAt_get (by omega)) (by unfold quietOf; rw [← low_m, h397]; rfl)).symm
     ·
      refine wpf_skip ?_
      refine blk_n ?_
      refine thn_n ?_
      refine wpf_region ?_
      refine wpo_move (v := .int .i64 (k : Int)) e393 rfl ?_
      refine wpo_add (c := (k : Int) + 1) rfl rfl (by omega) (by omega) (by omega) rfl ?_
      refine wpo_assign (v := .int .i64 ((k : Int) + 1)) rfl rfl ?_
      refine wpo_nil ?_
      refine thn_n ?_
      have k402 := (k164.grown0 hg395)
      exact ⟨cs.length - (k + 1), by omega, (k + 1), rfl, (by omega), (take_all_succ (p := quietOf (tabT ms) l) hall (cAt_get (by omega)) (by unfold quietOf; rw [← low_m, h397]; rfl)), rfl, e390, e391, e392, hb396, k402⟩
   ·
    have h403 := of_decide_eq_false h165
    refine wpf_exit ?_
    refine thn_e ?_
    refine thn_e ?_
    refine blk_e ?_
    refine thn_n ?_
    refine wpf_seq_region ?_
    refine wpo_assign (v := .bool true) rfl rfl ?_
    refine wpo_nil ?_
    refine wpf_ret ?_
    refine ⟨.bool true, res1 rfl rfl, ?_, hb158⟩
    exact congrArg Value.bool (quiet_yes (script_s.trans h145) hall (by omega)).symm
theorem gf_102 : goFn Try.prog 102 = true := by kernel_rfl
theorem gf_114 : goFn Try.prog 114 = true := by kernel_rfl
theorem gf_23 : goFn Try.prog 23 = true := by kernel_rfl
theorem gf_82 : goFn Try.prog 82 = true := by kernel_rfl
end Go.Proofs.Ytlkmdoebmklbbaa
