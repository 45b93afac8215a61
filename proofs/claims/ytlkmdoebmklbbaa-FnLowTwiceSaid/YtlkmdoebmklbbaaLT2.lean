/- Walks, printed by a program of mine (gen.py) out of the functions. -/
import Derived.Test.YtlkmdoebmklbbaaLT1
namespace Go.Proofs.Ytlkmdoebmklbbaa
open Go.RowKit Go.Dw
set_option maxRecDepth 100000
set_option maxHeartbeats 4000000
set_option linter.unusedSimpArgs false
set_option linter.unusedVariables false
theorem l71Label_c (p : Int) (hp : 0 ≤ p ∧ p ≤ 1000000000000) (lo R : Nat) (bs : List Int) (a : Option Addr) (c : Nat) (w : World) (hR : Blk w R 121 #[.slice a bs.length c, .int .i64 p]) (hlo : lo ≤ R) (hs : SlLt lo w a 1 (bs.map bcell)) (hb : ∀ b ∈ bs, 0 ≤ b ∧ b ≤ 255) (hn : bs.length ≤ 1048576) : CallsR Try.prog 65 #[.pointer (some ⟨R, 0, none⟩)] w (fun v w' => ∃ (l : Lab) (p' : Int), v = .agg #[.int .i64 l.s, .int .i64 l.v] ∧ -1 ≤ l.s ∧ l.s ≤ 4 ∧ 0 ≤ l.v ∧ l.v ≤ 3 ∧ p ≤ p' ∧ p' ≤ p + 4 ∧ Blk w' R 121 #[.slice a bs.length c, .int .i64 p'] ∧ w.grownBy w' (some R)) := by
 refine calls_of_wpf (n := 25) Try.func65 rfl Try.ntmps65 rfl ?_
 have hb0 := World.grownBy.refl w (some R)
 have hRlt := hR.lt
 refine wpf_seq_region ?_
 refine wpo_alloc (cs := #[.int .i64 0, .int .i64 0]) zt_40 rfl rfl ?_
 intro B101 w102 hN103
 have hlB101 := hN_ge hN103 hb0
 have lt_R_B101 := hN_gtl hN103 (hR).lt
 have hb104 := low0 hb0 hN103.grw
 refine wpo_nil ?_
 refine wpf_seq ?_
 have k271 := (hR.grown0 hN103.grw)
 refine wpf_drawI (m := 12) [[], [], [1], [0, 1, 2], [0, 1, 2, 3], [], [], [1, 2, 6], [1, 2, 5, 6, 7], [1, 2, 5, 6, 7, 8], [0, 1, 2, 3, 4, 5, 6, 7, 8, 9], [], [0, 1, 2, 3, 4, 5, 6, 7, 8, 9, 10, 11]] (fun S F w' => ∃ (B231 : Nat) (k237 : Int) (x245 : Int) (B248 : Nat) (k254 : Int) (x262 : Int) (B265 : Nat), w102.grownBy w' (some R) ∧ F 0 = .pointer (some ⟨R, 0, none⟩) ∧ F 2 = .pointer (some ⟨B101, 0, none⟩) ∧ (S 2 = false → Blk w' R 121 #[.slice a bs.length c, .int .i64 p]) ∧ (S 0 = true → F 4 = .slice (some ⟨B231, 0, none⟩) 5 5 ∧ w.heap.size ≤ B231 ∧ Blk w' B231 3 (([0, 0, 1, 2, 3] : List Int).flatMap icell).toArray ∧ R < B231 ∧ B101 < B231 ∧ w102.heap.size ≤ B231) ∧ (S 1 = true → F 5 = .pointer (some ⟨R, 0, none⟩)) ∧ (S 2 = true → F 6 = .int .i64 k237 ∧ 0 ≤ k237 ∧ (k237 < 5 ∨ k237 = 0) ∧ (S 7 = false → Blk w' R 121 #[.slice a bs.length c, .int .i64 (p + 1)])) ∧ (S 3 = true → F 7 = .pointer (some ⟨B231, (k237).toNat * 1, none⟩)) ∧ (S 4 = true → F 8 = .int .i64 x245 ∧ ([0, 0, 1, 2, 3] : List Int)[(k237).toNat]? = some x245 ∧ (x245 = 0 ∨ x245 = 0 ∨ x245 = 1 ∨ x245 = 2 ∨ x245 = 3)) ∧ (S 5 = true → F 9 = .slice (some ⟨B248, 0, none⟩) 4 4 ∧ w.heap.size ≤ B248 ∧ Blk w' B248 3 (([0, 0, 3, 1] : List Int).flatMap icell).toArray ∧ R < B248 ∧ B101 < B248 ∧ w102.heap.size ≤ B248) ∧ (S 6 = true → F 10 = .pointer (some ⟨R, 0, none⟩)) ∧ (S 7 = true → F 11 = .int .i64 k254 ∧ 0 ≤ k254 ∧ (k254 < 4 ∨ k254 = 0) ∧ Blk w' R 121 #[.slice a bs.length c, .int .i64 (p + 1 + 1)]) ∧ (S 8 = true → F 12 = .pointer (some ⟨B248, (k254).toNat * 1, none⟩)) ∧ (S 9 = true → F 13 = .int .i64 x262 ∧ ([0, 0, 3, 1] : List Int)[(k254).toNat]? = some x262 ∧ (x262 = 0 ∨ x262 = 0 ∨ x262 = 3 ∨ x262 = 1)) ∧ (S 10 = true → F 14 = .agg #[.int .i64 x245, .int .i64 x262]) ∧ (S 11 = true → F 3 = .pointer (some ⟨B265, 0, none⟩) ∧ w.heap.size ≤ B265 ∧ Blk w' B265 40 #[.int .i64 0, .int .i64 0] ∧ R < B265 ∧ B101 < B265 ∧ w102.heap.size ≤ B265) ∧ (S 0 = true → S 5 = true → B231 ≠ B248) ∧ (S 0 = true → S 11 = true → B231 ≠ B265) ∧ (S 5 = true → S 11 = true → B248 ≠ B265)) mixed_ (by kernel_rfl) ⟨0, 0, 0, 0, 0, 0, 0, grown_drew _, rfl, rfl, fun _ => (k271).grown0 (grown_drew _), fun h => not_begun h, fun h => not_begun h, fun h => not_begun h, fun h => not_begun h, fun h => not_begun h, fun h => not_begun h, fun h => not_begun h, fun h => not_begun h, fun h => not_begun h, fun h => not_begun h, fun h => not_begun h, fun h => not_begun h, fun h => not_begun h, fun h => not_begun h, fun h => not_begun h⟩ ?_ ?_
 ·
  refine preL_cons (fun S F w272 hS hbef hcl hI => ?_) ?_
  ·
   obtain ⟨B231, k237, x245, B248, k254, x262, B265, hi273, e274, e275, c_old_R, c_0, c_1, c_2, c_3, c_4, c_5, c_6, c_7, c_8, c_9, c_10, c_11, pr_B231_B248, pr_B231_B265, pr_B248_B265⟩ := hI
   have hb276 := grown_trans hb104 hi273
   refine wpo_buildSlice (ps := [(0, .int .i64 0), (1, .int .i64 0), (2, .int .i64 1), (3, .int .i64 2), (4, .int .i64 3)]) (e := 3) (cs := (([0, 0, 1, 2, 3] : List Int).flatMap icell).toArray) (parts_cons rfl (parts_cons rfl (parts_cons rfl (parts_cons rfl (parts_cons rfl parts_nil))))) (fun _ => by kernel_rfl) rfl ?_
   intro B277 w278 hN279
   have hlB277 := hN_ge hN279 hb276
   have k280 := (hN103.blk.grown hi273 (some_ne (by omega)))
   have lt_B101_B277 := hN_gtl hN279 (k280).lt
   have hb281 := low0 hb276 hN279.grw
   exact wpo_nil ⟨B277, k237, x245, B248, k254, x262, B265, (low0 hi273 hN279.grw), e274, e275, fun h => (c_old_R h).grown0 hN279.grw, fun _ => ⟨rfl, hlB277, hN279.blk, (by omega), lt_B101_B277, (Nat.le_trans hi273.size (Nat.le_of_eq hN279.eq.symm))⟩, c_1, fun h => let ⟨y282, y283, y284, y285⟩ := c_2 h; ⟨y282, y283, y284, fun hn => (y285 hn).grown0 hN279.grw⟩, fun h => undone 3 hS hcl rfl h, fun h => undone 4 hS hcl rfl h, fun h => let ⟨y286, y287, y288, y289, y290, y291⟩ := c_5 h; ⟨y286, y287, (y288).grown0 hN279.grw, y289, y290, y291⟩, c_6, fun h => let ⟨y292, y293, y294, y295⟩ := c_7 h; ⟨y292, y293, y294, (y295).grown0 hN279.grw⟩, c_8, c_9, fun h => undone 10 hS hcl rfl h, fun h => let ⟨y296, y297, y298, y299, y300, y301⟩ := c_11 h; ⟨y296, y297, (y298).grown0 hN279.grw, y299, y300, y301⟩, fun _ h => let ⟨y302, y303, y304, y305, y306, y307⟩ := c_5 h; Nat.ne_of_gt (Nat.lt_of_lt_of_le (Blk.lt y304) (Nat.le_of_eq hN279.eq.symm)), fun _ h => let ⟨y308, y309, y310, y311, y312, y313⟩ := c_11 h; Nat.ne_of_gt (Nat.lt_of_lt_of_le (Blk.lt y310) (Nat.le_of_eq hN279.eq.symm)), pr_B248_B265⟩
  refine preL_cons (fun S F w314 hS hbef hcl hI => ?_) ?_
  ·
   obtain ⟨B231, k237, x245, B248, k254, x262, B265, hi315, e316, e317, c_old_R, c_0, c_1, c_2, c_3, c_4, c_5, c_6, c_7, c_8, c_9, c_10, c_11, pr_B231_B248, pr_B231_B265, pr_B248_B265⟩ := hI
   have hb318 := grown_trans hb104 hi315
   refine wpo_move (v := .pointer (some ⟨R, 0, none⟩)) e316 rfl ?_
   exact wpo_nil ⟨B231, k237, x245, B248, k254, x262, B265, hi315, e316, e317, fun h => c_old_R h, c_0, fun _ => rfl, fun h => undone 2 hS hcl rfl h, fun h => undone 3 hS hcl rfl h, fun h => undone 4 hS hcl rfl h, c_5, c_6, fun h => undone 7 hS hcl rfl h, fun h => undone 8 hS hcl rfl h, fun h => undone 9 hS hcl rfl h, fun h => undone 10 hS hcl rfl h, c_11, pr_B231_B248, pr_B231_B265, pr_B248_B265⟩
  refine preL_cons (fun S F w319 hS hbef hcl hI => ?_) ?_
  ·
   obtain ⟨B231, k237, x245, B248, k254, x262, B265, hi320, e321, e322, c_old_R, c_0, c_1, c_2, c_3, c_4, c_5, c_6, c_7, c_8, c_9, c_10, c_11, pr_B231_B248, pr_B231_B265, pr_B248_B265⟩ := hI
   have hb323 := grown_trans hb104 hi320
   obtain e324 := c_1 (ready_of 1 hbef rfl)
   refine wpo_call (vs := [.pointer (some ⟨R, 0, none⟩), .int .i64 5]) gf_60 (args_cons e324 (args_cons rfl args_nil)) rfl (pick_c p 5 (by omega) _ R bs _ _ _ (c_old_R hS) (by omega) (SlLt.low1 hs hb323 hlo) (by first | exact hb | exact fun b h => hb b (List.mem_of_mem_take h)) (by first | omega | (rw [List.length_take]; omega))) ?_
   rintro _ w330 ⟨k325, rfl, hk326, hk327, kR328, hg329⟩
   have hb331 := grown_trans hb323 hg329
   exact wpo_nil ⟨B231, k325, x245, B248, k254, x262, B265, (grown_trans hi320 hg329), e321, e322, fun h => not_open h, fun h => let ⟨y332, y333, y334, y335, y336, y337⟩ := c_0 h; ⟨y332, y333, (y334).grown hg329 (some_ne (by omega)), y335, y336, y337⟩, c_1, fun _ => ⟨rfl, hk326, hk327, fun _ => kR328⟩, fun h => undone 3 hS hcl rfl h, fun h => undone 4 hS hcl rfl h, fun h => let ⟨y338, y339, y340, y341, y342, y343⟩ := c_5 h; ⟨y338, y339, (y340).grown hg329 (some_ne (by omega)), y341, y342, y343⟩, c_6, fun h => undone 7 hS hcl rfl h, fun h => undone 8 hS hcl rfl h, fun h => undone 9 hS hcl rfl h, fun h => undone 10 hS hcl rfl h, fun h => let ⟨y344, y345, y346, y347, y348, y349⟩ := c_11 h; ⟨y344, y345, (y346).grown hg329 (some_ne (by omega)), y347, y348, y349⟩, pr_B231_B248, pr_B231_B265, pr_B248_B265⟩
  refine preL_cons (fun S F w350 hS hbef hcl hI => ?_) ?_
  ·
   obtain ⟨B231, k237, x245, B248, k254, x262, B265, hi351, e352, e353, c_old_R, c_0, c_1, c_2, c_3, c_4, c_5, c_6, c_7, c_8, c_9, c_10, c_11, pr_B231_B248, pr_B231_B265, pr_B248_B265⟩ := hI
   have hb354 := grown_trans hb104 hi351
   obtain ⟨e355, hlB231, kb_B231, lt_R_B231, lt_B101_B231, hk_B231⟩ := c_0 (ready_of 0 hbef rfl)
   obtain e356 := c_1 (ready_of 1 hbef rfl)
   obtain ⟨e357, hk238, hk239, ks2_R⟩ := c_2 (ready_of 2 hbef rfl)
   refine wpo_indexAddr (o' := (k237).toNat * 1) es_43 e355 e357 (by omega) (by omega) (by omega) rfl ?_
   exact wpo_nil ⟨B231, k237, x245, B248, k254, x262, B265, hi351, e352, e353, fun hn => not_open ((ready_of 2 hbef rfl).symm.trans hn), c_0, c_1, c_2, fun _ => rfl, fun h => undone 4 hS hcl rfl h, c_5, c_6, c_7, c_8, c_9, fun h => undone 10 hS hcl rfl h, c_11, pr_B231_B248, pr_B231_B265, pr_B248_B265⟩
  refine preL_cons (fun S F w358 hS hbef hcl hI => ?_) ?_
  ·
   obtain ⟨B231, k237, x245, B248, k254, x262, B265, hi359, e360, e361, c_old_R, c_0, c_1, c_2, c_3, c_4, c_5, c_6, c_7, c_8, c_9, c_10, c_11, pr_B231_B248, pr_B231_B265, pr_B248_B265⟩ := hI
   have hb362 := grown_trans hb104 hi359
   obtain ⟨e363, hlB231, kb_B231, lt_R_B231, lt_B101_B231, hk_B231⟩ := c_0 (ready_of 0 hbef rfl)
   obtain e364 := c_1 (ready_of 1 hbef rfl)
   obtain ⟨e365, hk238, hk239, ks2_R⟩ := c_2 (ready_of 2 hbef rfl)
   obtain e366 := c_3 (ready_of 3 hbef rfl)
   obtain ⟨x367, hx368⟩ := get_lt (l := ([0, 0, 1, 2, 3] : List Int)) (i := (k237).toNat) (show (k237).toNat < 5 by omega)
   have hm369 := List.mem_of_getElem? hx368
   simp only [List.mem_cons, List.not_mem_nil, or_false] at hm369
   refine wpo_load1 (v := .int .i64 x367) ot_3 e366 ((rows_range wide_int kb_B231 hx368) 0 _ rfl) rfl ?_
   exact wpo_nil ⟨B231, k237, x367, B248, k254, x262, B265, hi359, e360, e361, fun hn => not_open ((ready_of 2 hbef rfl).symm.trans hn), c_0, c_1, c_2, c_3, fun _ => ⟨rfl, hx368, hm369⟩, c_5, c_6, c_7, c_8, c_9, fun h => undone 10 hS hcl rfl h, c_11, pr_B231_B248, pr_B231_B265, pr_B248_B265⟩
  refine preL_cons (fun S F w370 hS hbef hcl hI => ?_) ?_
  ·
   obtain ⟨B231, k237, x245, B248, k254, x262, B265, hi371, e372, e373, c_old_R, c_0, c_1, c_2, c_3, c_4, c_5, c_6, c_7, c_8, c_9, c_10, c_11, pr_B231_B248, pr_B231_B265, pr_B248_B265⟩ := hI
   have hb374 := grown_trans hb104 hi371
   refine wpo_buildSlice (ps := [(0, .int .i64 0), (1, .int .i64 0), (2, .int .i64 3), (3, .int .i64 1)]) (e := 3) (cs := (([0, 0, 3, 1] : List Int).flatMap icell).toArray) (parts_cons rfl (parts_cons rfl (parts_cons rfl (parts_cons rfl parts_nil)))) (fun _ => by kernel_rfl) rfl ?_
   intro B375 w376 hN377
   have hlB375 := hN_ge hN377 hb374
   have k378 := (hN103.blk.grown hi371 (some_ne (by omega)))
   have lt_B101_B375 := hN_gtl hN377 (k378).lt
   have hb379 := low0 hb374 hN377.grw
   exact wpo_nil ⟨B231, k237, x245, B375, k254, x262, B265, (low0 hi371 hN377.grw), e372, e373, fun h => (c_old_R h).grown0 hN377.grw, fun h => let ⟨y380, y381, y382, y383, y384, y385⟩ := c_0 h; ⟨y380, y381, (y382).grown0 hN377.grw, y383, y384, y385⟩, c_1, fun h => let ⟨y386, y387, y388, y389⟩ := c_2 h; ⟨y386, y387, y388, fun hn => (y389 hn).grown0 hN377.grw⟩, c_3, c_4, fun _ => ⟨rfl, hlB375, hN377.blk, (by omega), lt_B101_B375, (Nat.le_trans hi371.size (Nat.le_of_eq hN377.eq.symm))⟩, c_6, fun h => let ⟨y390, y391, y392, y393⟩ := c_7 h; ⟨y390, y391, y392, (y393).grown0 hN377.grw⟩, fun h => undone 8 hS hcl rfl h, fun h => undone 9 hS hcl rfl h, fun h => undone 10 hS hcl rfl h, fun h => let ⟨y394, y395, y396, y397, y398, y399⟩ := c_11 h; ⟨y394, y395, (y396).grown0 hN377.grw, y397, y398, y399⟩, fun h _ => let ⟨y400, y401, y402, y403, y404, y405⟩ := c_0 h; Nat.ne_of_lt (Nat.lt_of_lt_of_le (Blk.lt y402) (Nat.le_of_eq hN377.eq.symm)), pr_B231_B265, fun _ h => let ⟨y406, y407, y408, y409, y410, y411⟩ := c_11 h; Nat.ne_of_gt (Nat.lt_of_lt_of_le (Blk.lt y408) (Nat.le_of_eq hN377.eq.symm))⟩
  refine preL_cons (fun S F w412 hS hbef hcl hI => ?_) ?_
  ·
   obtain ⟨B231, k237, x245, B248, k254, x262, B265, hi413, e414, e415, c_old_R, c_0, c_1, c_2, c_3, c_4, c_5, c_6, c_7, c_8, c_9, c_10, c_11, pr_B231_B248, pr_B231_B265, pr_B248_B265⟩ := hI
   have hb416 := grown_trans hb104 hi413
   refine wpo_move (v := .pointer (some ⟨R, 0, none⟩)) e414 rfl ?_
   exact wpo_nil ⟨B231, k237, x245, B248, k254, x262, B265, hi413, e414, e415, fun h => c_old_R h, c_0, c_1, c_2, c_3, c_4, c_5, fun _ => rfl, fun h => undone 7 hS hcl rfl h, fun h => undone 8 hS hcl rfl h, fun h => undone 9 hS hcl rfl h, fun h => undone 10 hS hcl rfl h, c_11, pr_B231_B248, pr_B231_B265, pr_B248_B265⟩
  refine preL_cons (fun S F w417 hS hbef hcl hI => ?_) ?_
  ·
   obtain ⟨B231, k237, x245, B248, k254, x262, B265, hi418, e419, e420, c_old_R, c_0, c_1, c_2, c_3, c_4, c_5, c_6, c_7, c_8, c_9, c_10, c_11, pr_B231_B248, pr_B231_B265, pr_B248_B265⟩ := hI
   have hb421 := grown_trans hb104 hi418
   obtain e422 := c_1 (ready_of 1 hbef rfl)
   obtain ⟨e423, hk238, hk239, ks2_R⟩ := c_2 (ready_of 2 hbef rfl)
   obtain e424 := c_6 (ready_of 6 hbef rfl)
   refine wpo_call (vs := [.pointer (some ⟨R, 0, none⟩), .int .i64 4]) gf_60 (args_cons e424 (args_cons rfl args_nil)) rfl (pick_c (p + 1) 4 (by omega) _ R bs _ _ _ (ks2_R hS) (by omega) (SlLt.low1 hs hb421 hlo) (by first | exact hb | exact fun b h => hb b (List.mem_of_mem_take h)) (by first | omega | (rw [List.length_take]; omega))) ?_
   rintro _ w430 ⟨k425, rfl, hk426, hk427, kR428, hg429⟩
   have hb431 := grown_trans hb421 hg429
   exact wpo_nil ⟨B231, k237, x245, B248, k425, x262, B265, (grown_trans hi418 hg429), e419, e420, fun hn => not_open ((ready_of 2 hbef rfl).symm.trans hn), fun h => let ⟨y432, y433, y434, y435, y436, y437⟩ := c_0 h; ⟨y432, y433, (y434).grown hg429 (some_ne (by omega)), y435, y436, y437⟩, c_1, fun h => let ⟨y438, y439, y440, y441⟩ := c_2 h; ⟨y438, y439, y440, fun h => not_open h⟩, c_3, c_4, fun h => let ⟨y442, y443, y444, y445, y446, y447⟩ := c_5 h; ⟨y442, y443, (y444).grown hg429 (some_ne (by omega)), y445, y446, y447⟩, c_6, fun _ => ⟨rfl, hk426, hk427, kR428⟩, fun h => undone 8 hS hcl rfl h, fun h => undone 9 hS hcl rfl h, fun h => undone 10 hS hcl rfl h, fun h => let ⟨y448, y449, y450, y451, y452, y453⟩ := c_11 h; ⟨y448, y449, (y450).grown hg429 (some_ne (by omega)), y451, y452, y453⟩, pr_B231_B248, pr_B231_B265, pr_B248_B265⟩
  refine preL_cons (fun S F w454 hS hbef hcl hI => ?_) ?_
  ·
   obtain ⟨B231, k237, x245, B248, k254, x262, B265, hi455, e456, e457, c_old_R, c_0, c_1, c_2, c_3, c_4, c_5, c_6, c_7, c_8, c_9, c_10, c_11, pr_B231_B248, pr_B231_B265, pr_B248_B265⟩ := hI
   have hb458 := grown_trans hb104 hi455
   obtain e459 := c_1 (ready_of 1 hbef rfl)
   obtain ⟨e460, hk238, hk239, ks2_R⟩ := c_2 (ready_of 2 hbef rfl)
   obtain ⟨e461, hlB248, kb_B248, lt_R_B248, lt_B101_B248, hk_B248⟩ := c_5 (ready_of 5 hbef rfl)
   obtain e462 := c_6 (ready_of 6 hbef rfl)
   obtain ⟨e463, hk255, hk256, ks7_R⟩ := c_7 (ready_of 7 hbef rfl)
   refine wpo_indexAddr (o' := (k254).toNat * 1) es_43 e461 e463 (by omega) (by omega) (by omega) rfl ?_
   exact wpo_nil ⟨B231, k237, x245, B248, k254, x262, B265, hi455, e456, e457, fun hn => not_open ((ready_of 2 hbef rfl).symm.trans hn), c_0, c_1, c_2, c_3, c_4, c_5, c_6, c_7, fun _ => rfl, fun h => undone 9 hS hcl rfl h, fun h => undone 10 hS hcl rfl h, c_11, pr_B231_B248, pr_B231_B265, pr_B248_B265⟩
  refine preL_cons (fun S F w464 hS hbef hcl hI => ?_) ?_
  ·
   obtain ⟨B231, k237, x245, B248, k254, x262, B265, hi465, e466, e467, c_old_R, c_0, c_1, c_2, c_3, c_4, c_5, c_6, c_7, c_8, c_9, c_10, c_11, pr_B231_B248, pr_B231_B265, pr_B248_B265⟩ := hI
   have hb468 := grown_trans hb104 hi465
   obtain e469 := c_1 (ready_of 1 hbef rfl)
   obtain ⟨e470, hk238, hk239, ks2_R⟩ := c_2 (ready_of 2 hbef rfl)
   obtain ⟨e471, hlB248, kb_B248, lt_R_B248, lt_B101_B248, hk_B248⟩ := c_5 (ready_of 5 hbef rfl)
   obtain e472 := c_6 (ready_of 6 hbef rfl)
   obtain ⟨e473, hk255, hk256, ks7_R⟩ := c_7 (ready_of 7 hbef rfl)
   obtain e474 := c_8 (ready_of 8 hbef rfl)
   obtain ⟨x475, hx476⟩ := get_lt (l := ([0, 0, 3, 1] : List Int)) (i := (k254).toNat) (show (k254).toNat < 4 by omega)
   have hm477 := List.mem_of_getElem? hx476
   simp only [List.mem_cons, List.not_mem_nil, or_false] at hm477
   refine wpo_load1 (v := .int .i64 x475) ot_3 e474 ((rows_range wide_int kb_B248 hx476) 0 _ rfl) rfl ?_
   exact wpo_nil ⟨B231, k237, x245, B248, k254, x475, B265, hi465, e466, e467, fun hn => not_open ((ready_of 2 hbef rfl).symm.trans hn), c_0, c_1, c_2, c_3, c_4, c_5, c_6, c_7, c_8, fun _ => ⟨rfl, hx476, hm477⟩, fun h => undone 10 hS hcl rfl h, c_11, pr_B231_B248, pr_B231_B265, pr_B248_B265⟩
  refine preL_cons (fun S F w478 hS hbef hcl hI => ?_) ?_
  ·
   obtain ⟨B231, k237, x245, B248, k254, x262, B265, hi479, e480, e481, c_old_R, c_0, c_1, c_2, c_3, c_4, c_5, c_6, c_7, c_8, c_9, c_10, c_11, pr_B231_B248, pr_B231_B265, pr_B248_B265⟩ := hI
   have hb482 := grown_trans hb104 hi479
   obtain ⟨e483, hlB231, kb_B231, lt_R_B231, lt_B101_B231, hk_B231⟩ := c_0 (ready_of 0 hbef rfl)
   obtain e484 := c_1 (ready_of 1 hbef rfl)
   obtain ⟨e485, hk238, hk239, ks2_R⟩ := c_2 (ready_of 2 hbef rfl)
   obtain e486 := c_3 (ready_of 3 hbef rfl)
   obtain ⟨e487, hx246, hm247⟩ := c_4 (ready_of 4 hbef rfl)
   obtain ⟨e488, hlB248, kb_B248, lt_R_B248, lt_B101_B248, hk_B248⟩ := c_5 (ready_of 5 hbef rfl)
   obtain e489 := c_6 (ready_of 6 hbef rfl)
   obtain ⟨e490, hk255, hk256, ks7_R⟩ := c_7 (ready_of 7 hbef rfl)
   obtain e491 := c_8 (ready_of 8 hbef rfl)
   obtain ⟨e492, hx263, hm264⟩ := c_9 (ready_of 9 hbef rfl)
   have ne_B231_B248 := pr_B231_B248 (ready_of 0 hbef rfl) (ready_of 5 hbef rfl)
   refine wpo_build (ps := [(0, .int .i64 x245), (1, .int .i64 x262)]) (v := .agg #[.int .i64 x245, .int .i64 x262]) (parts_cons e487 (parts_cons e492 parts_nil)) (by kernel_rfl) rfl ?_
   exact wpo_nil ⟨B231, k237, x245, B248, k254, x262, B265, hi479, e480, e481, fun hn => not_open ((ready_of 2 hbef rfl).symm.trans hn), c_0, c_1, c_2, c_3, c_4, c_5, c_6, c_7, c_8, c_9, fun _ => rfl, c_11, pr_B231_B248, pr_B231_B265, pr_B248_B265⟩
  refine preL_cons (fun S F w493 hS hbef hcl hI => ?_) ?_
  ·
   obtain ⟨B231, k237, x245, B248, k254, x262, B265, hi494, e495, e496, c_old_R, c_0, c_1, c_2, c_3, c_4, c_5, c_6, c_7, c_8, c_9, c_10, c_11, pr_B231_B248, pr_B231_B265, pr_B248_B265⟩ := hI
   have hb497 := grown_trans hb104 hi494
   refine wpo_alloc (cs := #[.int .i64 0, .int .i64 0]) zt_40 rfl rfl ?_
   intro B498 w499 hN500
   have hlB498 := hN_ge hN500 hb497
   have k501 := (hN103.blk.grown hi494 (some_ne (by omega)))
   have lt_B101_B498 := hN_gtl hN500 (k501).lt
   have hb502 := low0 hb497 hN500.grw
   exact wpo_nil ⟨B231, k237, x245, B248, k254, x262, B498, (low0 hi494 hN500.grw), e495, e496, fun h => (c_old_R h).grown0 hN500.grw, fun h => let ⟨y503, y504, y505, y506, y507, y508⟩ := c_0 h; ⟨y503, y504, (y505).grown0 hN500.grw, y506, y507, y508⟩, c_1, fun h => let ⟨y509, y510, y511, y512⟩ := c_2 h; ⟨y509, y510, y511, fun hn => (y512 hn).grown0 hN500.grw⟩, c_3, c_4, fun h => let ⟨y513, y514, y515, y516, y517, y518⟩ := c_5 h; ⟨y513, y514, (y515).grown0 hN500.grw, y516, y517, y518⟩, c_6, fun h => let ⟨y519, y520, y521, y522⟩ := c_7 h; ⟨y519, y520, y521, (y522).grown0 hN500.grw⟩, c_8, c_9, c_10, fun _ => ⟨rfl, hlB498, hN500.blk, (by omega), lt_B101_B498, (Nat.le_trans hi494.size (Nat.le_of_eq hN500.eq.symm))⟩, pr_B231_B248, fun h _ => let ⟨y523, y524, y525, y526, y527, y528⟩ := c_0 h; Nat.ne_of_lt (Nat.lt_of_lt_of_le (Blk.lt y525) (Nat.le_of_eq hN500.eq.symm)), fun h _ => let ⟨y529, y530, y531, y532, y533, y534⟩ := c_5 h; Nat.ne_of_lt (Nat.lt_of_lt_of_le (Blk.lt y531) (Nat.le_of_eq hN500.eq.symm))⟩
  exact preL_nil
 ·
  intro S F w535 hall hI
  obtain ⟨B231, k237, x245, B248, k254, x262, B265, hi536, e537, e538, c_old_R, c_0, c_1, c_2, c_3, c_4, c_5, c_6, c_7, c_8, c_9, c_10, c_11, pr_B231_B248, pr_B231_B265, pr_B248_B265⟩ := hI
  have hb539 := grown_trans hb104 hi536
  obtain ⟨e540, hlB231, kb_B231, lt_R_B231, lt_B101_B231, hk_B231⟩ := c_0 (hall 0 (by decide))
  obtain e541 := c_1 (hall 1 (by decide))
  obtain ⟨e542, hk238, hk239, ks2_R⟩ := c_2 (hall 2 (by decide))
  obtain e543 := c_3 (hall 3 (by decide))
  obtain ⟨e544, hx246, hm247⟩ := c_4 (hall 4 (by decide))
  obtain ⟨e545, hlB248, kb_B248, lt_R_B248, lt_B101_B248, hk_B248⟩ := c_5 (hall 5 (by decide))
  obtain e546 := c_6 (hall 6 (by decide))
  obtain ⟨e547, hk255, hk256, ks7_R⟩ := c_7 (hall 7 (by decide))
  obtain e548 := c_8 (hall 8 (by decide))
  obtain ⟨e549, hx263, hm264⟩ := c_9 (hall 9 (by decide))
  obtain e550 := c_10 (hall 10 (by decide))
  obtain ⟨e551, hlB265, kb_B265, lt_R_B265, lt_B101_B265, hk_B265⟩ := c_11 (hall 11 (by decide))
  have ne_B231_B248 := pr_B231_B248 (hall 0 (by decide)) (hall 5 (by decide))
  have ne_B231_B265 := pr_B231_B265 (hall 0 (by decide)) (hall 11 (by decide))
  have ne_B248_B265 := pr_B248_B265 (hall 5 (by decide)) (hall 11 (by decide))
  refine wpo_storen (vs := [.int .i64 x245, .int .i64 x262]) (cs' := #[.int .i64 x245, .int .i64 x262]) rt_40 e551 e550 rfl (by simp [Value.oneCell']) kb_B265 (Nat.le_of_ble_eq_true rfl) rfl ?_
  intro w552 hS553
  have hb554 := low1 hb539 hS553.grw (by omega)
  refine wpo_nil ?_
  refine thn_n ?_
  refine wpf_seq ?_
  refine wpf_seq_region ?_
  refine wpo_move (v := .pointer (some ⟨R, 0, none⟩)) e537 rfl ?_
  have k555 := (ks7_R.grown hS553.grw (some_ne (by omega)))
  refine wpo_call (vs := [.pointer (some ⟨R, 0, none⟩), .int .i64 60]) gf_60 (args_cons rfl (args_cons rfl args_nil)) rfl (pick_c (p + 1 + 1) 60 (by omega) _ R bs _ _ _ k555 (by omega) (SlLt.low1 hs hb554 hlo) (by first | exact hb | exact fun b h => hb b (List.mem_of_mem_take h)) (by first | omega | (rw [List.length_take]; omega))) ?_
  rintro _ w561 ⟨k556, rfl, hk557, hk558, kR559, hg560⟩
  have hb562 := grown_trans hb554 hg560
  refine wpo_eql (q := decide (k556 = 0)) rfl rfl rfl rfl ?_
  refine wpo_nil ?_
  refine wpf_cond rfl (fun h563 => ?_) (fun h563 => ?_)
  ·
   have h564 := of_decide_eq_true h563
   refine wpf_region ?_
   refine wpo_buildSlice (ps := [(0, .int .i64 (-1)), (1, .int .i64 4)]) (e := 3) (cs := (([(-1), 4] : List Int).flatMap icell).toArray) (parts_cons rfl (parts_cons rfl parts_nil)) (fun _ => by kernel_rfl) rfl ?_
   intro B565 w566 hN567
   have hlB565 := hN_ge hN567 hb562
   have k568 := (((hN103.blk.grown hi536 (some_ne (by omega))).grown hS553.grw (some_ne (by omega))).grown hg560 (some_ne (by omega)))
   have lt_B101_B565 := hN_gtl hN567 (k568).lt
   have k569 := ((kb_B231.grown hS553.grw (some_ne (by omega))).grown hg560 (some_ne (by omega)))
   have lt_B231_B565 := hN_gtl hN567 (k569).lt
   have k570 := ((kb_B248.grown hS553.grw (some_ne (by omega))).grown hg560 (some_ne (by omega)))
   have lt_B248_B565 := hN_gtl hN567 (k570).lt
   have lt_R_B565 := hN_gtl hN567 (kR559).lt
   have k571 := (hS553.blk.grown hg560 (some_ne (by omega)))
   have lt_B265_B565 := hN_gtl hN567 (k571).lt
   have hb572 := low0 hb562 hN567.grw
   refine wpo_move (v := .pointer (some ⟨R, 0, none⟩)) e537 rfl ?_
   have k573 := (kR559.grown0 hN567.grw)
   refine wpo_call (vs := [.pointer (some ⟨R, 0, none⟩), .int .i64 2]) gf_60 (args_cons rfl (args_cons rfl args_nil)) rfl (pick_c (p + 1 + 1 + 1) 2 (by omega) _ R bs _ _ _ k573 (by omega) (SlLt.low1 hs hb572 hlo) (by first | exact hb | exact fun b h => hb b (List.mem_of_mem_take h)) (by first | omega | (rw [List.length_take]; omega))) ?_
   rintro _ w579 ⟨k574, rfl, hk575, hk576, kR577, hg578⟩
   have hb580 := grown_trans hb572 hg578
   refine wpo_indexAddr (o' := (k574).toNat * 1) es_43 rfl rfl (by omega) (by omega) (by omega) rfl ?_
   have k581 := (hN567.blk.grown hg578 (some_ne (by omega)))
   obtain ⟨x582, hx583⟩ := get_lt (l := ([(-1), 4] : List Int)) (i := (k574).toNat) (show (k574).toNat < 2 by omega)
   have hm584 := List.mem_of_getElem? hx583
   simp only [List.mem_cons, List.not_mem_nil, or_false] at hm584
   refine wpo_load1 (v := .int .i64 x582) ot_3 rfl ((rows_range wide_int k581 hx583) 0 _ rfl) rfl ?_
   refine wpo_fieldAddr (o' := 0) fo_40_0 e551 rfl rfl ?_
   have k585 := ((k571.grown0 hN567.grw).grown hg578 (some_ne (by omega)))
   refine wpo_store1 (v := .int .i64 x582) (cs' := #[.int .i64 x582, .int .i64 x262]) ot_3 rfl rfl rfl k585 (Nat.le_of_ble_eq_true rfl) rfl ?_
   intro w586 hS587
   have hb588 := low1 hb580 hS587.grw (by omega)
   refine wpo_nil ?_
   refine thn_n ?_
   refine wpf_seq_region ?_
   refine wpo_loadn (vs := [.int .i64 x582, .int .i64 x262]) rt_40 e551 rfl (hS587.blk.rangeL 0 2 rfl) rfl ?_
   have k589 := (((k568.grown0 hN567.grw).grown hg578 (some_ne (by omega))).grown hS587.grw (some_ne (by omega)))
   refine wpo_storen (vs := [.int .i64 x582, .int .i64 x262]) (cs' := #[.int .i64 x582, .int .i64 x262]) rt_40 e538 rfl rfl (by simp [Value.oneCell']) k589 (Nat.le_of_ble_eq_true rfl) rfl ?_
   intro w590 hS591
   have hb592 := low1 hb588 hS591.grw (by omega)
   refine wpo_nil ?_
   refine wpf_ret ?_
   have k593 := ((kR577.grown hS587.grw (some_ne (by omega))).grown hS591.grw (some_ne (by omega)))
   refine ⟨.agg #[.int .i64 x582, .int .i64 x262], resC rfl (resCell_mk (vs := [.int .i64 x582, .int .i64 x262]) rt_40 e538 rfl (hS591.blk.rangeL 0 2 rfl)), ⟨x582, x262⟩, (p + 1 + 1 + 1 + 1), rfl, show (-1 : Int) ≤ x582 by omega, show x582 ≤ (4 : Int) by omega, show (0 : Int) ≤ x262 by omega, show x262 ≤ (3 : Int) by omega, by omega, by omega, k593, hb592⟩
  ·
   have h594 := of_decide_eq_false h563
   refine wpf_skip ?_
   refine thn_n ?_
   refine wpf_seq_region ?_
   have k595 := (hS553.blk.grown hg560 (some_ne (by omega)))
   refine wpo_loadn (vs := [.int .i64 x245, .int .i64 x262]) rt_40 e551 rfl (k595.rangeL 0 2 rfl) rfl ?_
   have k596 := (((hN103.blk.grown hi536 (some_ne (by omega))).grown hS553.grw (some_ne (by omega))).grown hg560 (some_ne (by omega)))
   refine wpo_storen (vs := [.int .i64 x245, .int .i64 x262]) (cs' := #[.int .i64 x245, .int .i64 x262]) rt_40 e538 rfl rfl (by simp [Value.oneCell']) k596 (Nat.le_of_ble_eq_true rfl) rfl ?_
   intro w597 hS598
   have hb599 := low1 hb562 hS598.grw (by omega)
   refine wpo_nil ?_
   refine wpf_ret ?_
   have k600 := (kR559.grown hS598.grw (some_ne (by omega)))
   refine ⟨.agg #[.int .i64 x245, .int .i64 x262], resC rfl (resCell_mk (vs := [.int .i64 x245, .int .i64 x262]) rt_40 e538 rfl (hS598.blk.rangeL 0 2 rfl)), ⟨x245, x262⟩, (p + 1 + 1 + 1), rfl, show (-1 : Int) ≤ x245 by omega, show x245 ≤ (4 : Int) by omega, show (0 : Int) ≤ x262 by omega, show x262 ≤ (3 : Int) by omega, by omega, by omega, k600, hb599⟩
theorem es_54 : elemSz Try.prog 54 = some 8 := by kernel_rfl
theorem gf_84 : goFn Try.prog 84 = true := by kernel_rfl
theorem mk_43 : mkTy Try.prog 43 = some (3, 1, 8, some (.int .i64 0)) := by kernel_rfl
theorem mk_54 : mkTy Try.prog 54 = some (45, 8, 96, some (.agg #[.int .i64 0, .int .i64 0, .int .i64 0, .int .i64 0, .int .i64 0, .slice none 0 0, .slice none 0 0, .int .i64 0])) := by kernel_rfl
theorem thingExists_c (k : Int) (w : World) (a : Option Addr) (n c : Nat) : CallsR Try.prog 84 #[.slice a n c, .int .i64 k] w (fun v w' => v = .bool (inR k 1 (n : Int)) ∧ w.grownBy w' none) := by
 refine calls_of_wpf (n := 9) Try.func84 rfl Try.ntmps84 rfl ?_
 have hb0 := World.grownBy.refl w none
 refine wpf_seq_region ?_
 refine wpo_assign (v := .bool false) rfl rfl ?_
 refine wpo_nil ?_
 refine wpf_seq_region ?_
 refine wpo_move (v := .int .i64 k) rfl rfl ?_
 refine wpo_move (v := .slice a n c) rfl rfl ?_
 refine wpo_len (by kernel_rfl) rfl rfl ?_
 refine wpo_call (vs := [.int .i64 k, .int .i64 1, .int .i64 (n : Int)]) gf_69 (args_cons rfl (args_cons rfl (args_cons rfl args_nil))) rfl (inRange_c k 1 (n : Int) _) ?_
 rintro _ w101 ⟨rfl, hg102⟩
 have hb103 := low0 hb0 hg102
 refine wpo_assign (v := .bool (inR k 1 (n : Int))) rfl rfl ?_
 refine wpo_nil ?_
 refine wpf_ret ?_
 refine ⟨.bool (inR k 1 (n : Int)), res1 rfl rfl, ?_, hb103⟩
 rfl
theorem kindAt_c (k kd : Int) (hk : -9223372036854775807 ≤ k) (w : World) (ms : List MTh) (a : Option Addr) (c : Nat) (ht : TabAt w a ms) (hlen : TabLen ms) (hn : ms.length ≤ 1048576) : CallsR Try.prog 103 #[.slice a ms.length c, .int .i64 k, .int .i64 kd] w (fun v w' => v = .bool (kindAt (tabT ms) k kd) ∧ w.grownBy w' none) := by
 refine calls_of_wpf (n := 20) Try.func103 rfl Try.ntmps103 rfl ?_
 have hb0 := World.grownBy.refl w none
 refine wpf_seq_region ?_
 refine wpo_assign (v := .bool false) rfl rfl ?_
 refine wpo_nil ?_
 refine wpf_seq_region_mid (fun f' w' => (f' 6 = .bool (inR k 1 (ms.length : Int) && (decide ((mAt ms ((k - 1).toNat)).t.kind = kd)))) ∧ w.grownBy w' none) ?_ ?_
 ·
  refine wpo_move (v := .slice a ms.length c) rfl rfl ?_
  refine wpo_move (v := .int .i64 k) rfl rfl ?_
  refine wpo_call (vs := [.slice a ms.length c, .int .i64 k]) gf_84 (args_cons rfl (args_cons rfl args_nil)) rfl (thingExists_c k _ _ _ _) ?_
  rintro _ w116 ⟨rfl, hg117⟩
  have hb118 := low0 hb0 hg117
  refine wpo_move (v := .bool (inR k 1 (ms.length : Int))) rfl rfl ?_
  rcases bcases (inR k 1 (ms.length : Int)) with h119 | h119
  ·
   have hr120 := inR_iff.1 h119
   refine wpo_run rfl rfl rfl h119 ?_
   refine wpo_move (v := .slice a ms.length c) rfl rfl ?_
   refine wpo_run rfl rfl rfl h119 ?_
   refine wpo_move (v := .int .i64 k) rfl rfl ?_
   refine wpo_run rfl rfl rfl h119 ?_
   refine wpo_sub (c := k - 1) rfl rfl (by omega) (by omega) (by omega) rfl ?_
   refine wpo_run rfl rfl rfl h119 ?_
   obtain ⟨b123, q124, o125, ha126, ho127, hr128⟩ := SlAt.at (TabAt.low ht hb118).1 (map_get (mAt_get (show (k - 1).toNat < ms.length by omega)))
   have hle129 := TabLen.at hlen (mAt_get (show (k - 1).toNat < ms.length by omega))
   refine wpo_indexE es_54 rfl rfl ha126 ho127 (by omega) (by omega) rfl ?_
   refine wpo_run rfl rfl rfl h119 ?_
   refine wpo_fieldAddr (o' := o125) fo_45_0 rfl rfl rfl ?_
   refine wpo_run rfl rfl rfl h119 ?_
   refine wpo_load1 (v := .int .i64 ((mAt ms ((k - 1).toNat)).t.kind)) ot_3 rfl (hr128 0 _ rfl) rfl ?_
   refine wpo_run rfl rfl rfl h119 ?_
   refine wpo_move (v := .int .i64 kd) rfl rfl ?_
   refine wpo_run rfl rfl rfl h119 ?_
   refine wpo_eql (q := decide ((mAt ms ((k - 1).toNat)).t.kind = kd)) rfl rfl rfl rfl ?_
   refine wpo_pickt (v := .bool (decide ((mAt ms ((k - 1).toNat)).t.kind = kd))) rfl h119 rfl rfl ?_
   refine wpo_assign (v := .bool (decide ((mAt ms ((k - 1).toNat)).t.kind = kd))) rfl rfl ?_
   exact wpo_nil ⟨(congrArg Value.bool (by first | (simp only [h119, b0, b1, b2, b3, b4, b5, b6, b7, b8, b9]; done) | simp [h119])), hg117⟩
  ·
   iterate 8 refine wpo_pass rfl rfl rfl h119 rfl ?_
   refine wpo_pickf (v := .bool false) rfl h119 rfl rfl ?_
   refine wpo_assign (v := .bool false) rfl rfl ?_
   exact wpo_nil ⟨(congrArg Value.bool (by first | (simp only [h119, b0, b1, b2, b3, b4, b5, b6, b7, b8, b9]; done) | simp [h119])), hg117⟩
 ·
  rintro f130 w131 ⟨e132, hg133⟩
  have hb134 := low0 hb0 hg133
  refine wpf_ret ?_
  refine ⟨.bool (inR k 1 (ms.length : Int) && (decide ((mAt ms ((k - 1).toNat)).t.kind = kd))), res1 rfl e132, ?_, hb134⟩
  exact congrArg Value.bool kindAt_m
theorem sTableOk_c (w : World) (ms : List MTh) (a : Option Addr) (c : Nat) (ht : TabAt w a ms) (hlen : TabLen ms) (hn : ms.length ≤ 1048576) : CallsR Try.prog 34 #[.slice a ms.length c] w (fun v w' => v = .bool (tableOk (tabT ms)) ∧ w.grownBy w' none) := by
 refine calls_of_wpf (n := 92) Try.func34 rfl Try.ntmps34 rfl ?_
 have hb0 := World.grownBy.refl w none
 refine wpf_seq_region ?_
 refine wpo_assign (v := .bool false) rfl rfl ?_
 refine wpo_nil ?_
 refine wpf_seq ?_
 refine wpf_seq_region ?_
 refine wpo_assign (v := .int .i64 0) rfl rfl ?_
 refine wpo_nil ?_
 refine wpf_block ?_
 refine wpf_loopN (fun mm f' w' => ∃ (k : Nat), mm = ms.length - k ∧ k ≤ ms.length ∧ (((tabT ms).take k).all (rowOk (tabT ms))) = true ∧ f' 3 = .int .i64 (k : Int) ∧ f' 0 = .slice a ms.length c ∧ w.grownBy w' none) (ms.length - 0) ⟨0, rfl, (Nat.zero_le _), rfl, rfl, rfl, hb0⟩ ?_
 rintro mm f101 w102 ⟨k, hm104, hk, hall, e105, e106, hb103⟩
 refine wpf_seq ?_
 refine wpf_seq_region ?_
 refine wpo_move (v := .int .i64 (k : Int)) e105 rfl ?_
 refine wpo_move (v := .slice a ms.length c) e106 rfl ?_
 refine wpo_len (by kernel_rfl) rfl rfl ?_
 refine wpo_lss (q := decide ((k : Int) < (ms.length : Int))) rfl rfl rfl rfl ?_
 refine wpo_nil ?_
 refine wpf_cond rfl (fun h107 => ?_) (fun h107 => ?_)
 ·
  have h108 := of_decide_eq_true h107
  refine wpf_skip ?_
  refine thn_n ?_
  refine wpf_seq ?_
  refine wpf_block ?_
  refine wpf_seq ?_
  refine wpf_seq_region_mid (fun f' w' => (f' 0 = .slice a ms.length c ∧ f' 3 = .int .i64 (k : Int) ∧ f' 48 = .bool ((!thingOk (mAt ms k).t) || ((decide ((mAt ms k).t.kind = 5)) && ((decide ((ms.length : Int) < (mAt ms k).t.to)) || (!(decide ((mAt ms ((((mAt ms k).t.to) - 1).toNat)).t.kind = 1))))))) ∧ w102.grownBy w' none) ?_ ?_
  ·
   refine wpo_move (v := .slice a ms.length c) e106 rfl ?_
   refine wpo_move (v := .int .i64 (k : Int)) e105 rfl ?_
   obtain ⟨b144, q145, o146, ha147, ho148, hr149⟩ := SlAt.at (TabAt.low ht hb103).1 (map_get (mAt_get (show k < ms.length by omega)))
   have hle150 := TabLen.at hlen (mAt_get (show k < ms.length by omega))
   refine wpo_indexE es_54 rfl rfl ha147 ho148 (by omega) (by omega) rfl ?_
   refine wpo_loadn (vs := [.int .i64 ((mAt ms k).t.kind), .int .i64 ((mAt ms k).t.lab.s), .int .i64 ((mAt ms k).t.lab.v), .int .i64 ((mAt ms k).t.ve), .int .i64 ((mAt ms k).t.num), .slice ((mAt ms k).sa) ((mAt ms k).t.slots.length) ((mAt ms k).sc), .slice ((mAt ms k).qa) ((mAt ms k).t.queue.length) ((mAt ms k).qc), .int .i64 ((mAt ms k).t.to)]) rt_45 rfl rfl (range_sub hr149 0 8 rfl) rfl ?_
   refine wpo_call (vs := [.agg #[.int .i64 ((mAt ms k).t.kind), .int .i64 ((mAt ms k).t.lab.s), .int .i64 ((mAt ms k).t.lab.v), .int .i64 ((mAt ms k).t.ve), .int .i64 ((mAt ms k).t.num), .slice ((mAt ms k).sa) ((mAt ms k).t.slots.length) ((mAt ms k).sc), .slice ((mAt ms k).qa) ((mAt ms k).t.queue.length) ((mAt ms k).qc), .int .i64 ((mAt ms k).t.to)]]) gf_67 (args_cons rfl args_nil) rfl (sThingOk_c (mAt ms k) _ (TabAt.th (TabAt.low ht hb103) (mAt_get (show k < ms.length by omega))).1 (TabAt.th (TabAt.low ht hb103) (mAt_get (show k < ms.length by omega))).2.1 (by first | omega | exact Nat.le_of_ble_eq_true rfl | (simp only [List.length_nil, List.length_cons, List.length_append, List.length_replicate]; omega)) (by first | omega | exact Nat.le_of_ble_eq_true rfl | (simp only [List.length_nil, List.length_cons, List.length_append, List.length_replicate]; omega))) ?_
   rintro _ w151 ⟨rfl, hg152⟩
   have hb153 := low0 hb103 hg152
   refine wpo_not (b' := !thingOk (mAt ms k).t) rfl rfl rfl ?_
   refine wpo_move (v := .bool (!thingOk (mAt ms k).t)) rfl rfl ?_
   rcases bcases (!thingOk (mAt ms k).t) with h154 | h154
   ·
    have h155 := nt_t h154
    iterate 7 refine wpo_pass rfl rfl rfl h154 rfl ?_
    iterate 21 refine wpo_passu rfl rfl rfl rfl ?_
    refine wpo_pass rfl rfl rfl h154 rfl ?_
    refine wpo_pickt (v := .bool true) rfl h154 rfl rfl ?_
    exact wpo_nil ⟨⟨e106, e105, (congrArg Value.bool (by first | (simp only [h107, h154, h155, b0, b1, b2, b3, b4, b5, b6, b7, b8, b9]; done) | simp [h107, h154, h155]))⟩, hg152⟩
   ·
    have h156 := nt_f h154
    refine wpo_run rfl rfl rfl h154 ?_
    refine wpo_move (v := .slice a ms.length c) e106 rfl ?_
    refine wpo_run rfl rfl rfl h154 ?_
    refine wpo_move (v := .int .i64 (k : Int)) e105 rfl ?_
    refine wpo_run rfl rfl rfl h154 ?_
    refine wpo_indexE es_54 rfl rfl ha147 ho148 (by omega) (by omega) rfl ?_
    refine wpo_run rfl rfl rfl h154 ?_
    refine wpo_fieldAddr (o' := o146) fo_45_0 rfl rfl rfl ?_
    refine wpo_run rfl rfl rfl h154 ?_
    refine wpo_load1 (v := .int .i64 ((mAt ms k).t.kind)) ot_3 rfl ((range_low hr149 hg152) 0 _ rfl) rfl ?_
    refine wpo_run rfl rfl rfl h154 ?_
    refine wpo_eql (q := decide ((mAt ms k).t.kind = 5)) rfl rfl rfl rfl ?_
    refine wpo_run rfl rfl rfl h154 ?_
    refine wpo_move (v := .bool (decide ((mAt ms k).t.kind = 5))) rfl rfl ?_
    rcases bcases (decide ((mAt ms k).t.kind = 5)) with h157 | h157
    ·
     have hgt158 := th_gate h156 h157
     have h159 := of_decide_eq_true h157
     refine wpo_run rfl rfl rfl h157 ?_
     refine wpo_move (v := .slice a ms.length c) e106 rfl ?_
     refine wpo_run rfl rfl rfl h157 ?_
     refine wpo_move (v := .int .i64 (k : Int)) e105 rfl ?_
     refine wpo_run rfl rfl rfl h157 ?_
     refine wpo_indexE es_54 rfl rfl ha147 ho148 (by omega) (by omega) rfl ?_
     refine wpo_run rfl rfl rfl h157 ?_
     refine wpo_fieldAddr (o' := o146 + 7) fo_45_6 rfl rfl rfl ?_
     refine wpo_run rfl rfl rfl h157 ?_
     refine wpo_load1 (v := .int .i64 ((mAt ms k).t.to)) ot_3 rfl ((range_low hr149 hg152) 7 _ rfl) rfl ?_
     refine wpo_run rfl rfl rfl h157 ?_
     refine wpo_move (v := .slice a ms.length c) e106 rfl ?_
     refine wpo_run rfl rfl rfl h157 ?_
     refine wpo_len (by kernel_rfl) rfl rfl ?_
     refine wpo_run rfl rfl rfl h157 ?_
     refine wpo_gtr (q := decide ((ms.length : Int) < (mAt ms k).t.to)) rfl rfl rfl rfl ?_
     refine wpo_run rfl rfl rfl h157 ?_
     refine wpo_move (v := .bool (decide ((ms.length : Int) < (mAt ms k).t.to))) rfl rfl ?_
     rcases bcases (decide ((ms.length : Int) < (mAt ms k).t.to)) with h160 | h160
     ·
      have h161 := of_decide_eq_true h160
      iterate 11 refine wpo_pass rfl rfl rfl h160 rfl ?_
      refine wpo_run rfl rfl rfl h157 ?_
      refine wpo_pickt (v := .bool true) rfl h160 rfl rfl ?_
      refine wpo_run rfl rfl rfl h154 ?_
      refine wpo_pickt (v := .bool true) rfl h157 rfl rfl ?_
      refine wpo_pickf (v := .bool true) rfl h154 rfl rfl ?_
      exact wpo_nil ⟨⟨e106, e105, (congrArg Value.bool (by first | (simp only [h107, h154, h156, h157, h160, b0, b1, b2, b3, b4, b5, b6, b7, b8, b9]; done) | simp [h107, h154, h156, h157, h160]))⟩, hg152⟩
     ·
      have h162 := of_decide_eq_false h160
      refine wpo_run rfl rfl rfl h160 ?_
      refine wpo_move (v := .slice a ms.length c) e106 rfl ?_
      refine wpo_run rfl rfl rfl h160 ?_
      refine wpo_move (v := .slice a ms.length c) e106 rfl ?_
      refine wpo_run rfl rfl rfl h160 ?_
      refine wpo_move (v := .int .i64 (k : Int)) e105 rfl ?_
      refine wpo_run rfl rfl rfl h160 ?_
      refine wpo_indexE es_54 rfl rfl ha147 ho148 (by omega) (by omega) rfl ?_
      refine wpo_run rfl rfl rfl h160 ?_
      refine wpo_fieldAddr (o' := o146 + 7) fo_45_6 rfl rfl rfl ?_
      refine wpo_run rfl rfl rfl h160 ?_
      refine wpo_load1 (v := .int .i64 ((mAt ms k).t.to)) ot_3 rfl ((range_low hr149 hg152) 7 _ rfl) rfl ?_
      refine wpo_run rfl rfl rfl h160 ?_
      refine wpo_sub (c := ((mAt ms k).t.to) - 1) rfl rfl (by omega) (by omega) (by omega) rfl ?_
      refine wpo_run rfl rfl rfl h160 ?_
      obtain ⟨b165, q166, o167, ha168, ho169, hr170⟩ := SlAt.at (TabAt.low ht hb153).1 (map_get (mAt_get (show (((mAt ms k).t.to) - 1).toNat < ms.length by omega)))
      have hle171 := TabLen.at hlen (mAt_get (show (((mAt ms k).t.to) - 1).toNat < ms.length by omega))
      refine wpo_indexE es_54 rfl rfl ha168 ho169 (by omega) (by omega) rfl ?_
      refine wpo_run rfl rfl rfl h160 ?_
      refine wpo_fieldAddr (o' := o167) fo_45_0 rfl rfl rfl ?_
      refine wpo_run rfl rfl rfl h160 ?_
      refine wpo_load1 (v := .int .i64 ((mAt ms ((((mAt ms k).t.to) - 1).toNat)).t.kind)) ot_3 rfl (hr170 0 _ rfl) rfl ?_
      refine wpo_run rfl rfl rfl h160 ?_
      refine wpo_neq (q := !(decide ((mAt ms ((((mAt ms k).t.to) - 1).toNat)).t.kind = 1))) rfl rfl rfl rfl ?_
      refine wpo_run rfl rfl rfl h157 ?_
      refine wpo_pickf (v := .bool (!(decide ((mAt ms ((((mAt ms k).t.to) - 1).toNat)).t.kind = 1)))) rfl h160 rfl rfl ?_
      refine wpo_run rfl rfl rfl h154 ?_
      refine wpo_pickt (v := .bool (!(decide ((mAt ms ((((mAt ms k).t.to) - 1).toNat)).t.kind = 1)))) rfl h157 rfl rfl ?_
      refine wpo_pickf (v := .bool (!(decide ((mAt ms ((((mAt ms k).t.to) - 1).toNat)).t.kind = 1)))) rfl h154 rfl rfl ?_
      exact wpo_nil ⟨⟨e106, e105, (congrArg Value.bool (by first | (simp only [h107, h154, h156, h157, h160, b0, b1, b2, b3, b4, b5, b6, b7, b8, b9]; done) | simp [h107, h154, h156, h157, h160]))⟩, hg152⟩
    ·
     have h172 := of_decide_eq_false h157
     iterate 9 refine wpo_pass rfl rfl rfl h157 rfl ?_
     iterate 11 refine wpo_passu rfl rfl rfl rfl ?_
     refine wpo_pass rfl rfl rfl h157 rfl ?_
     refine wpo_run rfl rfl rfl h154 ?_
     refine wpo_pickf (v := .bool false) rfl h157 rfl rfl ?_
     refine wpo_pickf (v := .bool false) rfl h154 rfl rfl ?_
     exact wpo_nil ⟨⟨e106, e105, (congrArg Value.bool (by first | (simp only [h107, h154, h156, h157, b0, b1, b2, b3, b4, b5, b6, b7, b8, b9]; done) | simp [h107, h154, h156, h157]))⟩, hg152⟩
  ·
   rintro f173 w174 ⟨⟨e175, e176, e177⟩, hg178⟩
   have hb179 := low0 hb103 hg178
   refine wpf_cond e177 (fun h180 => ?_) (fun h180 => ?_)
   ·
    refine wpf_seq_region ?_
    refine wpo_assign (v := .bool false) rfl rfl ?_
    refine wpo_nil ?_
    refine wpf_ret ?_
    refine thn_r ?_
    refine blk_r ?_
    refine thn_r ?_
    refine thn_r ?_
    refine blk_r ?_
    refine thn_r ?_
    refine ⟨.bool false, res1 rfl rfl, ?_, hb179⟩
    exact congrArg Value.bool (tab_no (by omega) ((row_head rfl).1 h180))
   ·
    have h181 := or_l h180
    have h182 := nt_f h181
    have h183 := or_r h180
    refine wpf_skip ?_
    refine thn_n ?_
    refine wpf_seq_region ?_
    refine wpo_assign (v := .int .i64 0) rfl rfl ?_
    refine wpo_nil ?_
    refine wpf_block ?_
    refine wpf_loopN (fun mm f' w' => ∃ (j : Nat), mm = (mAt ms k).t.slots.length - j ∧ j ≤ (mAt ms k).t.slots.length ∧ (((mAt ms k).t.slots.take j).all (rightTo (tabT ms))) = true ∧ f' 4 = .int .i64 (j : Int) ∧ f' 0 = .slice a ms.length c ∧ f' 3 = .int .i64 (k : Int) ∧ w.grownBy w' none) ((mAt ms k).t.slots.length - 0) ⟨0, rfl, (Nat.zero_le _), rfl, rfl, e175, e176, hb179⟩ ?_
    rintro mm f184 w185 ⟨j, hm187, hj, hrs, e188, e189, e190, hb186⟩
    have hR0 : ∀ j, j < (mAt ms k).t.slots.length → 0 ≤ (rAt (mAt ms k).t.slots j).th ∧ (rAt (mAt ms k).t.slots j).th ≤ 8 := fun j hj => th_right ((row_head rfl).2 h180).1 (rAt_get hj)
    refine wpf_seq ?_
    refine wpf_seq_region ?_
    refine wpo_move (v := .int .i64 (j : Int)) e188 rfl ?_
    refine wpo_move (v := .slice a ms.length c) e189 rfl ?_
    refine wpo_move (v := .int .i64 (k : Int)) e190 rfl ?_
    obtain ⟨b193, q194, o195, ha196, ho197, hr198⟩ := SlAt.at (TabAt.low ht hb186).1 (map_get (mAt_get (show k < ms.length by omega)))
    have hle199 := TabLen.at hlen (mAt_get (show k < ms.length by omega))
    refine wpo_indexE es_54 rfl rfl ha196 ho197 (by omega) (by omega) rfl ?_
    refine wpo_fieldAddr (o' := o195 + 5) fo_45_4 rfl rfl rfl ?_
    refine wpo_load1 (v := .slice ((mAt ms k).sa) ((mAt ms k).t.slots.length) ((mAt ms k).sc)) ot_27 rfl (hr198 5 _ rfl) rfl ?_
    refine wpo_len (by kernel_rfl) rfl rfl ?_
    refine wpo_lss (q := decide ((j : Int) < ((mAt ms k).t.slots.length : Int))) rfl rfl rfl rfl ?_
    refine wpo_nil ?_
    refine wpf_cond rfl (fun h200 => ?_) (fun h200 => ?_)
    ·
     have h201 := of_decide_eq_true h200
     refine wpf_skip ?_
     refine thn_n ?_
     refine wpf_seq ?_
     refine wpf_block ?_
     refine wpf_seq_region ?_
     refine wpo_move (v := .slice a ms.length c) e189 rfl ?_
     refine wpo_move (v := .int .i64 (k : Int)) e190 rfl ?_
     refine wpo_indexE es_54 rfl rfl ha196 ho197 (by omega) (by omega) rfl ?_
     refine wpo_fieldAddr (o' := o195 + 5) fo_45_4 rfl rfl rfl ?_
     refine wpo_load1 (v := .slice ((mAt ms k).sa) ((mAt ms k).t.slots.length) ((mAt ms k).sc)) ot_27 rfl (hr198 5 _ rfl) rfl ?_
     refine wpo_move (v := .int .i64 (j : Int)) e188 rfl ?_
     obtain ⟨b204, q205, o206, ha207, ho208, hr209⟩ := SlAt.at (TabAt.th (TabAt.low ht hb186) (mAt_get (show k < ms.length by omega))).1 (map_get (rAt_get (show j < (mAt ms k).t.slots.length by omega)))
     refine wpo_indexE es_27 rfl rfl ha207 ho208 (by omega) (by omega) rfl ?_
     refine wpo_loadn (vs := [.int .i64 ((rAt (mAt ms k).t.slots j).th), .int .i64 ((rAt (mAt ms k).t.slots j).ve), .bool ((rAt (mAt ms k).t.slots j).rd), .bool ((rAt (mAt ms k).t.slots j).wr), .bool ((rAt (mAt ms k).t.slots j).wk)]) rt_29 rfl rfl (range_sub hr209 0 5 rfl) rfl ?_
     refine wpo_alloc (cs := #[.int .i64 0, .int .i64 0, .bool false, .bool false, .bool false]) zt_29 rfl rfl ?_
     intro B210 w211 hN212
     have hlB210 := hN_ge hN212 hb186
     have hb213 := low0 hb186 hN212.grw
     refine wpo_storen (vs := [.int .i64 ((rAt (mAt ms k).t.slots j).th), .int .i64 ((rAt (mAt ms k).t.slots j).ve), .bool ((rAt (mAt ms k).t.slots j).rd), .bool ((rAt (mAt ms k).t.slots j).wr), .bool ((rAt (mAt ms k).t.slots j).wk)]) (cs' := #[.int .i64 ((rAt (mAt ms k).t.slots j).th), .int .i64 ((rAt (mAt ms k).t.slots j).ve), .bool ((rAt (mAt ms k).t.slots j).rd), .bool ((rAt (mAt ms k).t.slots j).wr), .bool ((rAt (mAt ms k).t.slots j).wk)]) rt_29 rfl rfl rfl (by simp [Value.oneCell']) hN212.blk (Nat.le_of_ble_eq_true rfl) rfl ?_
     intro w214 hS215
     have hb216 := low1 hb213 hS215.grw (by omega)
     refine wpo_nil ?_
     refine wpf_seq_mid (fun f' w' => (f' 0 = .slice a ms.length c ∧ f' 3 = .int .i64 (k : Int) ∧ f' 4 = .int .i64 (j : Int) ∧ f' 88 = .bool ((decide ((ms.length : Int) < (rAt (mAt ms k).t.slots j).th)) || ((decide (0 < (rAt (mAt ms k).t.slots j).th)) && (decide ((mAt ms ((((rAt (mAt ms k).t.slots j).th) - 1).toNat)).t.ve < (rAt (mAt ms k).t.slots j).ve))))) ∧ w214.grownBy w' none) ?_ ?_
     ·
      rcases bcases (decide ((ms.length : Int) < (rAt (mAt ms k).t.slots j).th)) with h226 | h226
      ·
       have h227 := of_decide_eq_true h226
       refine wpf_draw (m := 19) (vals := [(67, .pointer (some ⟨B210, 0, none⟩)), (68, .int .i64 ((rAt (mAt ms k).t.slots j).th)), (69, .slice a ms.length c), (70, .int .i64 (ms.length : Int)), (71, .bool (decide ((ms.length : Int) < (rAt (mAt ms k).t.slots j).th))), (72, .bool (decide ((ms.length : Int) < (rAt (mAt ms k).t.slots j).th))), (73, undef), (74, undef), (75, undef), (76, undef), (77, undef), (78, undef), (79, undef), (80, undef), (81, undef), (82, undef), (83, undef), (84, undef), (85, undef)]) (fun w' => w214.grownBy w' none) mixed_ (by kernel_rfl) (grown_drew _) ?_ ?_
       ·
        refine yll_cons rfl (fun w228 hi229 => ?_) ?_
        ·
         have hb230 := low0 hb216 hi229
         refine wpo_fieldAddr (o' := 0) fo_29_0 rfl rfl rfl ?_
         exact wpo_nil ⟨rfl, hi229⟩
        refine yll_cons rfl (fun w231 hi232 => ?_) ?_
        ·
         have hb233 := low0 hb216 hi232
         have k234 := (hS215.blk.grown0 hi232)
         refine wpo_load1 (v := .int .i64 ((rAt (mAt ms k).t.slots j).th)) ot_3 rfl (k234.cell rfl) rfl ?_
         exact wpo_nil ⟨rfl, hi232⟩
        refine yll_cons rfl (fun w235 hi236 => ?_) ?_
        ·
         have hb237 := low0 hb216 hi236
         refine wpo_move (v := .slice a ms.length c) e189 rfl ?_
         exact wpo_nil ⟨rfl, hi236⟩
        refine yll_cons rfl (fun w238 hi239 => ?_) ?_
        ·
         have hb240 := low0 hb216 hi239
         refine wpo_len (by kernel_rfl) rfl rfl ?_
         exact wpo_nil ⟨rfl, hi239⟩
        refine yll_cons rfl (fun w241 hi242 => ?_) ?_
        ·
         have hb243 := low0 hb216 hi242
         refine wpo_gtr (q := decide ((ms.length : Int) < (rAt (mAt ms k).t.slots j).th)) rfl rfl rfl rfl ?_
         exact wpo_nil ⟨rfl, hi242⟩
        refine yll_cons rfl (fun w244 hi245 => ?_) ?_
        ·
         have hb246 := low0 hb216 hi245
         refine wpo_move (v := .bool (decide ((ms.length : Int) < (rAt (mAt ms k).t.slots j).th))) rfl rfl ?_
         exact wpo_nil ⟨rfl, hi245⟩
        refine yll_cons rfl (fun w247 hi248 => ?_) ?_
        ·
         have hb249 := low0 hb216 hi248
         refine wpo_pass rfl rfl rfl h226 rfl ?_
         exact wpo_nil ⟨rfl, hi248⟩
        refine yll_cons rfl (fun w250 hi251 => ?_) ?_
        ·
         have hb252 := low0 hb216 hi251
         refine wpo_pass rfl rfl rfl h226 rfl ?_
         exact wpo_nil ⟨rfl, hi251⟩
        refine yll_cons rfl (fun w253 hi254 => ?_) ?_
        ·
         have hb255 := low0 hb216 hi254
         refine wpo_pass rfl rfl rfl h226 rfl ?_
         exact wpo_nil ⟨rfl, hi254⟩
        refine yll_cons rfl (fun w256 hi257 => ?_) ?_
        ·
         have hb258 := low0 hb216 hi257
         refine wpo_pass rfl rfl rfl h226 rfl ?_
         exact wpo_nil ⟨rfl, hi257⟩
        refine yll_cons rfl (fun w259 hi260 => ?_) ?_
        ·
         have hb261 := low0 hb216 hi260
         refine wpo_passu rfl rfl rfl rfl ?_
         exact wpo_nil ⟨rfl, hi260⟩
        refine yll_cons rfl (fun w262 hi263 => ?_) ?_
        ·
         have hb264 := low0 hb216 hi263
         refine wpo_passu rfl rfl rfl rfl ?_
         exact wpo_nil ⟨rfl, hi263⟩
        refine yll_cons rfl (fun w265 hi266 => ?_) ?_
        ·
         have hb267 := low0 hb216 hi266
         refine wpo_passu rfl rfl rfl rfl ?_
         exact wpo_nil ⟨rfl, hi266⟩
        refine yll_cons rfl (fun w268 hi269 => ?_) ?_
        ·
         have hb270 := low0 hb216 hi269
         refine wpo_passu rfl rfl rfl rfl ?_
         exact wpo_nil ⟨rfl, hi269⟩
        refine yll_cons rfl (fun w271 hi272 => ?_) ?_
        ·
         have hb273 := low0 hb216 hi272
         refine wpo_passu rfl rfl rfl rfl ?_
         exact wpo_nil ⟨rfl, hi272⟩
        refine yll_cons rfl (fun w274 hi275 => ?_) ?_
        ·
         have hb276 := low0 hb216 hi275
         refine wpo_passu rfl rfl rfl rfl ?_
         exact wpo_nil ⟨rfl, hi275⟩
        refine yll_cons rfl (fun w277 hi278 => ?_) ?_
        ·
         have hb279 := low0 hb216 hi278
         refine wpo_passu rfl rfl rfl rfl ?_
         exact wpo_nil ⟨rfl, hi278⟩
        refine yll_cons rfl (fun w280 hi281 => ?_) ?_
        ·
         have hb282 := low0 hb216 hi281
         refine wpo_passu rfl rfl rfl rfl ?_
         exact wpo_nil ⟨rfl, hi281⟩
        refine yll_cons rfl (fun w283 hi284 => ?_) ?_
        ·
         have hb285 := low0 hb216 hi284
         refine wpo_passu rfl rfl rfl rfl ?_
         exact wpo_nil ⟨rfl, hi284⟩
        exact yll_nil
       ·
        intro w286 hi287
        have hb288 := low0 hb216 hi287
        refine wpo_passu rfl rfl rfl rfl ?_
        refine wpo_pass rfl rfl rfl h226 rfl ?_
        refine wpo_pickt (v := .bool true) rfl h226 rfl rfl ?_
        exact wpo_nil (thn_n ⟨⟨e189, e190, e188, (congrArg Value.bool (by first | (simp only [h107, h180, h181, h182, h183, h200, h226, b0, b1, b2, b3, b4, b5, b6, b7, b8, b9]; done) | simp [h107, h180, h181, h182, h183, h200, h226]))⟩, hi287⟩)
      ·
       have h289 := of_decide_eq_false h226
       rcases bcases (decide (0 < (rAt (mAt ms k).t.slots j).th)) with h290 | h290
       ·
        have h291 := of_decide_eq_true h290
        obtain ⟨b303, q304, o305, ha306, ho307, hr308⟩ := SlAt.at (TabAt.low ht hb216).1 (map_get (mAt_get (show (((rAt (mAt ms k).t.slots j).th) - 1).toNat < ms.length by omega)))
        have hle309 := TabLen.at hlen (mAt_get (show (((rAt (mAt ms k).t.slots j).th) - 1).toNat < ms.length by omega))
        refine wpf_draw (m := 19) (vals := [(67, .pointer (some ⟨B210, 0, none⟩)), (68, .int .i64 ((rAt (mAt ms k).t.slots j).th)), (69, .slice a ms.length c), (70, .int .i64 (ms.length : Int)), (71, .bool (decide ((ms.length : Int) < (rAt (mAt ms k).t.slots j).th))), (72, .bool (decide ((ms.length : Int) < (rAt (mAt ms k).t.slots j).th))), (73, .pointer (some ⟨B210, 0, none⟩)), (74, .int .i64 ((rAt (mAt ms k).t.slots j).th)), (75, .bool (decide (0 < (rAt (mAt ms k).t.slots j).th))), (76, .bool (decide (0 < (rAt (mAt ms k).t.slots j).th))), (77, .pointer (some ⟨B210, 1, none⟩)), (78, .int .i64 ((rAt (mAt ms k).t.slots j).ve)), (79, .slice a ms.length c), (80, .pointer (some ⟨B210, 0, none⟩)), (81, .int .i64 ((rAt (mAt ms k).t.slots j).th)), (82, .int .i64 (((rAt (mAt ms k).t.slots j).th) - 1)), (83, .pointer (some ⟨b303, o305, none⟩)), (84, .pointer (some ⟨b303, o305 + 3, none⟩)), (85, .int .i64 ((mAt ms ((((rAt (mAt ms k).t.slots j).th) - 1).toNat)).t.ve))]) (fun w' => w214.grownBy w' none) mixed_ (by kernel_rfl) (grown_drew _) ?_ ?_
        ·
         refine yll_cons rfl (fun w310 hi311 => ?_) ?_
         ·
          have hb312 := low0 hb216 hi311
          refine wpo_fieldAddr (o' := 0) fo_29_0 rfl rfl rfl ?_
          exact wpo_nil ⟨rfl, hi311⟩
         refine yll_cons rfl (fun w313 hi314 => ?_) ?_
         ·
          have hb315 := low0 hb216 hi314
          have k316 := (hS215.blk.grown0 hi314)
          refine wpo_load1 (v := .int .i64 ((rAt (mAt ms k).t.slots j).th)) ot_3 rfl (k316.cell rfl) rfl ?_
          exact wpo_nil ⟨rfl, hi314⟩
         refine yll_cons rfl (fun w317 hi318 => ?_) ?_
         ·
          have hb319 := low0 hb216 hi318
          refine wpo_move (v := .slice a ms.length c) e189 rfl ?_
          exact wpo_nil ⟨rfl, hi318⟩
         refine yll_cons rfl (fun w320 hi321 => ?_) ?_
         ·
          have hb322 := low0 hb216 hi321
          refine wpo_len (by kernel_rfl) rfl rfl ?_
          exact wpo_nil ⟨rfl, hi321⟩
         refine yll_cons rfl (fun w323 hi324 => ?_) ?_
         ·
          have hb325 := low0 hb216 hi324
          refine wpo_gtr (q := decide ((ms.length : Int) < (rAt (mAt ms k).t.slots j).th)) rfl rfl rfl rfl ?_
          exact wpo_nil ⟨rfl, hi324⟩
         refine yll_cons rfl (fun w326 hi327 => ?_) ?_
         ·
          have hb328 := low0 hb216 hi327
          refine wpo_move (v := .bool (decide ((ms.length : Int) < (rAt (mAt ms k).t.slots j).th))) rfl rfl ?_
          exact wpo_nil ⟨rfl, hi327⟩
         refine yll_cons rfl (fun w329 hi330 => ?_) ?_
         ·
          have hb331 := low0 hb216 hi330
          refine wpo_run rfl rfl rfl h226 ?_
          refine wpo_fieldAddr (o' := 0) fo_29_0 rfl rfl rfl ?_
          exact wpo_nil ⟨rfl, hi330⟩
         refine yll_cons rfl (fun w332 hi333 => ?_) ?_
         ·
          have hb334 := low0 hb216 hi333
          refine wpo_run rfl rfl rfl h226 ?_
          have k335 := (hS215.blk.grown0 hi333)
          refine wpo_load1 (v := .int .i64 ((rAt (mAt ms k).t.slots j).th)) ot_3 rfl (k335.cell rfl) rfl ?_
          exact wpo_nil ⟨rfl, hi333⟩
         refine yll_cons rfl (fun w336 hi337 => ?_) ?_
         ·
          have hb338 := low0 hb216 hi337
          refine wpo_run rfl rfl rfl h226 ?_
          refine wpo_gtr (q := decide (0 < (rAt (mAt ms k).t.slots j).th)) rfl rfl rfl rfl ?_
          exact wpo_nil ⟨rfl, hi337⟩
         refine yll_cons rfl (fun w339 hi340 => ?_) ?_
         ·
          have hb341 := low0 hb216 hi340
          refine wpo_run rfl rfl rfl h226 ?_
          refine wpo_move (v := .bool (decide (0 < (rAt (mAt ms k).t.slots j).th))) rfl rfl ?_
          exact wpo_nil ⟨rfl, hi340⟩
         refine yll_cons rfl (fun w342 hi343 => ?_) ?_
         ·
          have hb344 := low0 hb216 hi343
          refine wpo_run rfl rfl rfl h290 ?_
          refine wpo_fieldAddr (o' := 1) fo_29_1 rfl rfl rfl ?_
          exact wpo_nil ⟨rfl, hi343⟩
         refine yll_cons rfl (fun w345 hi346 => ?_) ?_
         ·
          have hb347 := low0 hb216 hi346
          refine wpo_run rfl rfl rfl h290 ?_
          have k348 := (hS215.blk.grown0 hi346)
          refine wpo_load1 (v := .int .i64 ((rAt (mAt ms k).t.slots j).ve)) ot_3 rfl (k348.cell rfl) rfl ?_
          exact wpo_nil ⟨rfl, hi346⟩
         refine yll_cons rfl (fun w349 hi350 => ?_) ?_
         ·
          have hb351 := low0 hb216 hi350
          refine wpo_run rfl rfl rfl h290 ?_
          refine wpo_move (v := .slice a ms.length c) e189 rfl ?_
          exact wpo_nil ⟨rfl, hi350⟩
         refine yll_cons rfl (fun w352 hi353 => ?_) ?_
         ·
          have hb354 := low0 hb216 hi353
          refine wpo_run rfl rfl rfl h290 ?_
          refine wpo_fieldAddr (o' := 0) fo_29_0 rfl rfl rfl ?_
          exact wpo_nil ⟨rfl, hi353⟩
         refine yll_cons rfl (fun w355 hi356 => ?_) ?_
         ·
          have hb357 := low0 hb216 hi356
          refine wpo_run rfl rfl rfl h290 ?_
          have k358 := (hS215.blk.grown0 hi356)
          refine wpo_load1 (v := .int .i64 ((rAt (mAt ms k).t.slots j).th)) ot_3 rfl (k358.cell rfl) rfl ?_
          exact wpo_nil ⟨rfl, hi356⟩
         refine yll_cons rfl (fun w359 hi360 => ?_) ?_
         ·
          have hb361 := low0 hb216 hi360
          refine wpo_run rfl rfl rfl h290 ?_
          refine wpo_sub (c := ((rAt (mAt ms k).t.slots j).th) - 1) rfl rfl (by omega) (by omega) (by omega) rfl ?_
          exact wpo_nil ⟨rfl, hi360⟩
         refine yll_cons rfl (fun w362 hi363 => ?_) ?_
         ·
          have hb364 := low0 hb216 hi363
          refine wpo_run rfl rfl rfl h290 ?_
          refine wpo_indexE es_54 rfl rfl ha306 ho307 (by omega) (by omega) rfl ?_
          exact wpo_nil ⟨rfl, hi363⟩
         refine yll_cons rfl (fun w365 hi366 => ?_) ?_
         ·
          have hb367 := low0 hb216 hi366
          refine wpo_run rfl rfl rfl h290 ?_
          refine wpo_fieldAddr (o' := o305 + 3) fo_45_2 rfl rfl rfl ?_
          exact wpo_nil ⟨rfl, hi366⟩
         refine yll_cons rfl (fun w368 hi369 => ?_) ?_
         ·
          have hb370 := low0 hb216 hi369
          refine wpo_run rfl rfl rfl h290 ?_
          refine wpo_load1 (v := .int .i64 ((mAt ms ((((rAt (mAt ms k).t.slots j).th) - 1).toNat)).t.ve)) ot_3 rfl ((range_low hr308 hi369) 3 _ rfl) rfl ?_
          exact wpo_nil ⟨rfl, hi369⟩
         exact yll_nil
        ·
         intro w371 hi372
         have hb373 := low0 hb216 hi372
         refine wpo_run rfl rfl rfl h290 ?_
         refine wpo_gtr (q := decide ((mAt ms ((((rAt (mAt ms k).t.slots j).th) - 1).toNat)).t.ve < (rAt (mAt ms k).t.slots j).ve)) rfl rfl rfl rfl ?_
         refine wpo_run rfl rfl rfl h226 ?_
         refine wpo_pickt (v := .bool (decide ((mAt ms ((((rAt (mAt ms k).t.slots j).th) - 1).toNat)).t.ve < (rAt (mAt ms k).t.slots j).ve))) rfl h290 rfl rfl ?_
         refine wpo_pickf (v := .bool (decide ((mAt ms ((((rAt (mAt ms k).t.slots j).th) - 1).toNat)).t.ve < (rAt (mAt ms k).t.slots j).ve))) rfl h226 rfl rfl ?_
         exact wpo_nil (thn_n ⟨⟨e189, e190, e188, (congrArg Value.bool (by first | (simp only [h107, h180, h181, h182, h183, h200, h226, h290, b0, b1, b2, b3, b4, b5, b6, b7, b8, b9]; done) | simp [h107, h180, h181, h182, h183, h200, h226, h290]))⟩, hi372⟩)
       ·
        have h374 := of_decide_eq_false h290
        refine wpf_draw (m := 19) (vals := [(67, .pointer (some ⟨B210, 0, none⟩)), (68, .int .i64 ((rAt (mAt ms k).t.slots j).th)), (69, .slice a ms.length c), (70, .int .i64 (ms.length : Int)), (71, .bool (decide ((ms.length : Int) < (rAt (mAt ms k).t.slots j).th))), (72, .bool (decide ((ms.length : Int) < (rAt (mAt ms k).t.slots j).th))), (73, .pointer (some ⟨B210, 0, none⟩)), (74, .int .i64 ((rAt (mAt ms k).t.slots j).th)), (75, .bool (decide (0 < (rAt (mAt ms k).t.slots j).th))), (76, .bool (decide (0 < (rAt (mAt ms k).t.slots j).th))), (77, undef), (78, undef), (79, undef), (80, undef), (81, undef), (82, undef), (83, undef), (84, undef), (85, undef)]) (fun w' => w214.grownBy w' none) mixed_ (by kernel_rfl) (grown_drew _) ?_ ?_
        ·
         refine yll_cons rfl (fun w375 hi376 => ?_) ?_
         ·
          have hb377 := low0 hb216 hi376
          refine wpo_fieldAddr (o' := 0) fo_29_0 rfl rfl rfl ?_
          exact wpo_nil ⟨rfl, hi376⟩
         refine yll_cons rfl (fun w378 hi379 => ?_) ?_
         ·
          have hb380 := low0 hb216 hi379
          have k381 := (hS215.blk.grown0 hi379)
          refine wpo_load1 (v := .int .i64 ((rAt (mAt ms k).t.slots j).th)) ot_3 rfl (k381.cell rfl) rfl ?_
          exact wpo_nil ⟨rfl, hi379⟩
         refine yll_cons rfl (fun w382 hi383 => ?_) ?_
         ·
          have hb384 := low0 hb216 hi383
          refine wpo_move (v := .slice a ms.length c) e189 rfl ?_
          exact wpo_nil ⟨rfl, hi383⟩
         refine yll_cons rfl (fun w385 hi386 => ?_) ?_
         ·
          have hb387 := low0 hb216 hi386
          refine wpo_len (by kernel_rfl) rfl rfl ?_
          exact wpo_nil ⟨rfl, hi386⟩
         refine yll_cons rfl (fun w388 hi389 => ?_) ?_
         ·
          have hb390 := low0 hb216 hi389
          refine wpo_gtr (q := decide ((ms.length : Int) < (rAt (mAt ms k).t.slots j).th)) rfl rfl rfl rfl ?_
          exact wpo_nil ⟨rfl, hi389⟩
         refine yll_cons rfl (fun w391 hi392 => ?_) ?_
         ·
          have hb393 := low0 hb216 hi392
          refine wpo_move (v := .bool (decide ((ms.length : Int) < (rAt (mAt ms k).t.slots j).th))) rfl rfl ?_
          exact wpo_nil ⟨rfl, hi392⟩
         refine yll_cons rfl (fun w394 hi395 => ?_) ?_
         ·
          have hb396 := low0 hb216 hi395
          refine wpo_run rfl rfl rfl h226 ?_
          refine wpo_fieldAddr (o' := 0) fo_29_0 rfl rfl rfl ?_
          exact wpo_nil ⟨rfl, hi395⟩
         refine yll_cons rfl (fun w397 hi398 => ?_) ?_
         ·
          have hb399 := low0 hb216 hi398
          refine wpo_run rfl rfl rfl h226 ?_
          have k400 := (hS215.blk.grown0 hi398)
          refine wpo_load1 (v := .int .i64 ((rAt (mAt ms k).t.slots j).th)) ot_3 rfl (k400.cell rfl) rfl ?_
          exact wpo_nil ⟨rfl, hi398⟩
         refine yll_cons rfl (fun w401 hi402 => ?_) ?_
         ·
          have hb403 := low0 hb216 hi402
          refine wpo_run rfl rfl rfl h226 ?_
          refine wpo_gtr (q := decide (0 < (rAt (mAt ms k).t.slots j).th)) rfl rfl rfl rfl ?_
          exact wpo_nil ⟨rfl, hi402⟩
         refine yll_cons rfl (fun w404 hi405 => ?_) ?_
         ·
          have hb406 := low0 hb216 hi405
          refine wpo_run rfl rfl rfl h226 ?_
          refine wpo_move (v := .bool (decide (0 < (rAt (mAt ms k).t.slots j).th))) rfl rfl ?_
          exact wpo_nil ⟨rfl, hi405⟩
         refine yll_cons rfl (fun w407 hi408 => ?_) ?_
         ·
          have hb409 := low0 hb216 hi408
          refine wpo_pass rfl rfl rfl h290 rfl ?_
          exact wpo_nil ⟨rfl, hi408⟩
         refine yll_cons rfl (fun w410 hi411 => ?_) ?_
         ·
          have hb412 := low0 hb216 hi411
          refine wpo_pass rfl rfl rfl h290 rfl ?_
          exact wpo_nil ⟨rfl, hi411⟩
         refine yll_cons rfl (fun w413 hi414 => ?_) ?_
         ·
          have hb415 := low0 hb216 hi414
          refine wpo_pass rfl rfl rfl h290 rfl ?_
          exact wpo_nil ⟨rfl, hi414⟩
         refine yll_cons rfl (fun w416 hi417 => ?_) ?_
         ·
          have hb418 := low0 hb216 hi417
          refine wpo_pass rfl rfl rfl h290 rfl ?_
          exact wpo_nil ⟨rfl, hi417⟩
         refine yll_cons rfl (fun w419 hi420 => ?_) ?_
         ·
          have hb421 := low0 hb216 hi420
          refine wpo_pass rfl rfl rfl h290 rfl ?_
          exact wpo_nil ⟨rfl, hi420⟩
         refine yll_cons rfl (fun w422 hi423 => ?_) ?_
         ·
          have hb424 := low0 hb216 hi423
          refine wpo_pass rfl rfl rfl h290 rfl ?_
          exact wpo_nil ⟨rfl, hi423⟩
         refine yll_cons rfl (fun w425 hi426 => ?_) ?_
         ·
          have hb427 := low0 hb216 hi426
          refine wpo_pass rfl rfl rfl h290 rfl ?_
          exact wpo_nil ⟨rfl, hi426⟩
         refine yll_cons rfl (fun w428 hi429 => ?_) ?_
         ·
          have hb430 := low0 hb216 hi429
          refine wpo_pass rfl rfl rfl h290 rfl ?_
          exact wpo_nil ⟨rfl, hi429⟩
         refine yll_cons rfl (fun w431 hi432 => ?_) ?_
         ·
          have hb433 := low0 hb216 hi432
          refine wpo_pass rfl rfl rfl h290 rfl ?_
          exact wpo_nil ⟨rfl, hi432⟩
         exact yll_nil
        ·
         intro w434 hi435
         have hb436 := low0 hb216 hi435
         refine wpo_pass rfl rfl rfl h290 rfl ?_
         refine wpo_run rfl rfl rfl h226 ?_
         refine wpo_pickf (v := .bool false) rfl h290 rfl rfl ?_
         refine wpo_pickf (v := .bool false) rfl h226 rfl rfl ?_
         exact wpo_nil (thn_n ⟨⟨e189, e190, e188, (congrArg Value.bool (by first | (simp only [h107, h180, h181, h182, h183, h200, h226, h290, b0, b1, b2, b3, b4, b5, b6, b7, b8, b9]; done) | simp [h107, h180, h181, h182, h183, h200, h226, h290]))⟩, hi435⟩)
     ·
      rintro f437 w438 ⟨⟨e439, e440, e441, e442⟩, hg443⟩
      have hb444 := low0 hb216 hg443
      refine wpf_cond e442 (fun h445 => ?_) (fun h445 => ?_)
      ·
       refine wpf_seq_region ?_
       refine wpo_assign (v := .bool false) rfl rfl ?_
       refine wpo_nil ?_
       refine wpf_ret ?_
       refine blk_r ?_
       refine thn_r ?_
       refine thn_r ?_
       refine blk_r ?_
       refine blk_r ?_
       refine thn_r ?_
       refine thn_r ?_
       refine blk_r ?_
       refine thn_r ?_
       refine ⟨.bool false, res1 rfl rfl, ?_, hb444⟩
       exact congrArg Value.bool (tab_no (by omega) (row_no1 (rAt_get (by omega)) (nt_t ((row_right (th_right ((row_head rfl).2 h180).1 (rAt_get (by omega))).1).symm.trans h445))))
      ·
       have h446 := or_l h445
       have h447 := of_decide_eq_false h446
       have h448 := or_r h445
       refine wpf_skip ?_
       refine blk_n ?_
       refine thn_n ?_
       refine wpf_region ?_
       refine wpo_move (v := .int .i64 (j : Int)) e441 rfl ?_
       refine wpo_add (c := (j : Int) + 1) rfl rfl (by omega) (by omega) (by omega) rfl ?_
       refine wpo_assign (v := .int .i64 ((j : Int) + 1)) rfl rfl ?_
       refine wpo_nil ?_
       refine thn_n ?_
       exact ⟨(mAt ms k).t.slots.length - (j + 1), by omega, (j + 1), rfl, (by omega), (take_all_succ hrs (rAt_get (by omega)) (nt_f ((row_right (th_right ((row_head rfl).2 h180).1 (rAt_get (by omega))).1).symm.trans h445))), rfl, e439, e440, hb444⟩
    ·
     have h449 := of_decide_eq_false h200
     refine wpf_exit ?_
     refine thn_e ?_
     refine thn_e ?_
     refine blk_e ?_
     refine blk_n ?_
     refine thn_n ?_
     refine wpf_region ?_
     refine wpo_move (v := .int .i64 (k : Int)) e190 rfl ?_
     refine wpo_add (c := (k : Int) + 1) rfl rfl (by omega) (by omega) (by omega) rfl ?_
     refine wpo_assign (v := .int .i64 ((k : Int) + 1)) rfl rfl ?_
     refine wpo_nil ?_
     refine thn_n ?_
     exact ⟨ms.length - (k + 1), by omega, (k + 1), rfl, (by omega), (take_all_succ hall (tab_at (by omega)) (row_yes ((row_head rfl).2 h180).1 ((row_head rfl).2 h180).2 hrs (by omega))), rfl, e189, hb186⟩
 ·
  have h450 := of_decide_eq_false h107
  refine wpf_exit ?_
  refine thn_e ?_
  refine thn_e ?_
  refine blk_e ?_
  refine thn_n ?_
  refine wpf_seq_region ?_
  refine wpo_move (v := .slice a ms.length c) e106 rfl ?_
  refine wpo_len (by kernel_rfl) rfl rfl ?_
  refine wpo_call (vs := [.int .i64 (ms.length : Int), .int .i64 1, .int .i64 8]) gf_85 (args_cons rfl (args_cons rfl (args_cons rfl args_nil))) rfl (l6In_c (ms.length : Int) 1 8 _) ?_
  rintro _ w451 ⟨rfl, hg452⟩
  have hb453 := low0 hb103 hg452
  refine wpo_assign (v := .bool (inR (ms.length : Int) 1 8)) rfl rfl ?_
  refine wpo_nil ?_
  refine wpf_ret ?_
  refine ⟨.bool (inR (ms.length : Int) 1 8), res1 rfl rfl, ?_, hb453⟩
  exact congrArg Value.bool (tab_yes hall (by omega))
theorem gf_103 : goFn Try.prog 103 = true := by kernel_rfl
theorem gf_104 : goFn Try.prog 104 = true := by kernel_rfl
theorem ot_54 : oneTy Try.prog 54 = true := by kernel_rfl
theorem zt_4 : zeroTy Try.prog 4 = some (.bool false) := by kernel_rfl
theorem allRights_c (w : World) (ms : List MTh) (a : Option Addr) (c : Nat) : CallsR Try.prog 104 #[.slice a ms.length c] w (fun v w' => ∃ B : Nat, v = .func (.func 115) #[] #[.pointer (some ⟨B, 0, none⟩)] ∧ w.heap.size ≤ B ∧ Blk w' B 54 #[.slice a ms.length c] ∧ w.grownBy w' none) := by
 refine calls_of_wpf (n := 4) Try.func104 rfl Try.ntmps104 rfl ?_
 have hb0 := World.grownBy.refl w none
 refine wpf_seq_region ?_
 refine wpo_box (v := .slice a ms.length c) (cs := #[.slice a ms.length c]) rfl rfl rfl ?_
 intro B101 w102 hN103
 have hlB101 := hN_ge hN103 hb0
 have hb104 := low0 hb0 hN103.grw
 refine wpo_assign (v := .nilFunc) rfl rfl ?_
 refine wpo_nil ?_
 refine wpf_seq_region ?_
 refine wpo_makeFunc (vs := [.pointer (some ⟨B101, 0, none⟩)]) (args_cons rfl args_nil) rfl ?_
 refine wpo_assign (v := .func (.func 115) #[] #[.pointer (some ⟨B101, 0, none⟩)]) rfl rfl ?_
 refine wpo_nil ?_
 refine wpf_ret ?_
 refine ⟨.func (.func 115) #[] #[.pointer (some ⟨B101, 0, none⟩)], res1 rfl rfl, B101, rfl, hlB101, hN103.blk, hb104⟩
theorem rights_stops (m : Nat) (w : World) (B : Nat) (ms : List MTh) (a : Option Addr) (c : Nat) (ht : TabAt w a ms) (hlen : TabLen ms) (hn : ms.length ≤ 1048576) (hB : Blk w B 54 #[.slice a ms.length c]) :
    SeqStopsK Fence.wide m Try.prog 115 #[.pointer (some ⟨B, 0, none⟩)] (fun x : Rt => #[.agg x.cells.toArray]) (Below w.heap.size) (fun xs => xs = allR ms) (fun pre => pre <+: allR ms) (allR ms).length w := by
 intro l J Jx W hW hJ hJx hY h0
 have hb0 := gob hW
 show CallsIn Fence.wide m Try.prog 115 #[.func (.yield l) #[] #[], .pointer (some ⟨B, 0, none⟩)] W _
 refine (callsIn_of_wpg (n := 26) (m := m) (R := fun v w' => (∃ xs, xs = allR ms ∧ J xs w') ∨ (∃ pre, pre <+: allR ms ∧ Jx pre w')) Try.func115 rfl Try.ntmps115 rfl ?_).mono (fun e w' ⟨v, he, h⟩ => ⟨⟨v, he⟩, h⟩)
 refine wpg_seq_region wd_wide ?_
 refine wpo_load1 (v := .slice a ms.length c) ot_54 rfl ((hB.grown0 hb0).cell rfl) rfl ?_
 refine wpo_len (by kernel_rfl) rfl rfl ?_
 refine wpo_move (v := .int .i64 0) rfl rfl ?_
 refine wpo_nil ?_
 refine wpg_block ?_
 refine wpg_loopN (fun mm f' w' => ∃ (k : Nat), mm = ms.length - k ∧ k ≤ ms.length ∧ J (allR (ms.take k)) w' ∧ f' 9 = .int .i64 (k : Int) ∧ f' 0 = .func (.yield l) #[] #[] ∧ f' 7 = .slice a ms.length c ∧ f' 8 = .int .i64 (ms.length : Int) ∧ w.grownBy w' none) (ms.length - 0) ⟨0, rfl, (Nat.zero_le _), h0, rfl, rfl, rfl, rfl, hb0⟩ ?_
 rintro mm f101 w102 ⟨k, hm104, hk, hJk, e105, e106, e107, e108, hb103⟩
 refine wpg_seq_region wd_wide ?_
 refine wpo_lss (q := decide ((k : Int) < (ms.length : Int))) e105 e108 rfl rfl ?_
 refine wpo_nil ?_
 refine wpg_seq ?_
 refine wpg_cond rfl (fun h109 => ?_) (fun h109 => ?_)
 ·
  have h110 := of_decide_eq_true h109
  refine wpg_skip ?_
  refine thn_n ?_
  refine wpg_seq ?_
  refine wpg_block ?_
  refine wpg_seq_region wd_wide ?_
  obtain ⟨b113, q114, o115, ha116, ho117, hr118⟩ := SlAt.at (TabAt.low ht hb103).1 (map_get (mAt_get (show k < ms.length by omega)))
  have hle119 := TabLen.at hlen (mAt_get (show k < ms.length by omega))
  refine wpo_indexE es_54 e107 e105 ha116 ho117 (by omega) (by omega) rfl ?_
  refine wpo_loadn (vs := [.int .i64 ((mAt ms k).t.kind), .int .i64 ((mAt ms k).t.lab.s), .int .i64 ((mAt ms k).t.lab.v), .int .i64 ((mAt ms k).t.ve), .int .i64 ((mAt ms k).t.num), .slice ((mAt ms k).sa) ((mAt ms k).t.slots.length) ((mAt ms k).sc), .slice ((mAt ms k).qa) ((mAt ms k).t.queue.length) ((mAt ms k).qc), .int .i64 ((mAt ms k).t.to)]) rt_45 rfl rfl (range_sub hr118 0 8 rfl) rfl ?_
  refine wpo_alloc (cs := #[.int .i64 0, .int .i64 0, .int .i64 0, .int .i64 0, .int .i64 0, .slice none 0 0, .slice none 0 0, .int .i64 0]) zt_45 rfl rfl ?_
  intro B120 w121 hN122
  have hlB120 := hN_ge hN122 hb103
  have hb123 := low0 hb103 hN122.grw
  refine wpo_storen (vs := [.int .i64 ((mAt ms k).t.kind), .int .i64 ((mAt ms k).t.lab.s), .int .i64 ((mAt ms k).t.lab.v), .int .i64 ((mAt ms k).t.ve), .int .i64 ((mAt ms k).t.num), .slice ((mAt ms k).sa) ((mAt ms k).t.slots.length) ((mAt ms k).sc), .slice ((mAt ms k).qa) ((mAt ms k).t.queue.length) ((mAt ms k).qc), .int .i64 ((mAt ms k).t.to)]) (cs' := #[.int .i64 ((mAt ms k).t.kind), .int .i64 ((mAt ms k).t.lab.s), .int .i64 ((mAt ms k).t.lab.v), .int .i64 ((mAt ms k).t.ve), .int .i64 ((mAt ms k).t.num), .slice ((mAt ms k).sa) ((mAt ms k).t.slots.length) ((mAt ms k).sc), .slice ((mAt ms k).qa) ((mAt ms k).t.queue.length) ((mAt ms k).qc), .int .i64 ((mAt ms k).t.to)]) rt_45 rfl rfl rfl (by simp [Value.oneCell']) hN122.blk (Nat.le_of_ble_eq_true rfl) rfl ?_
  intro w124 hS125
  have hb126 := low1 hb123 hS125.grw (by omega)
  refine wpo_nil ?_
  refine wpg_seq_region wd_wide ?_
  refine wpo_fieldAddr (o' := 5) fo_45_4 rfl rfl rfl ?_
  refine wpo_load1 (v := .slice ((mAt ms k).sa) ((mAt ms k).t.slots.length) ((mAt ms k).sc)) ot_27 rfl (hS125.blk.cell rfl) rfl ?_
  refine wpo_len (by kernel_rfl) rfl rfl ?_
  refine wpo_move (v := .int .i64 0) rfl rfl ?_
  refine wpo_nil ?_
  refine wpg_block ?_
  refine wpg_loopN (fun mm f' w' => ∃ (j : Nat), mm = (mAt ms k).t.slots.length - j ∧ j ≤ (mAt ms k).t.slots.length ∧ J (preR ms k j) w' ∧ f' 16 = .int .i64 (j : Int) ∧ f' 0 = .func (.yield l) #[] #[] ∧ f' 7 = .slice a ms.length c ∧ f' 8 = .int .i64 (ms.length : Int) ∧ f' 9 = .int .i64 (k : Int) ∧ f' 14 = .slice ((mAt ms k).sa) ((mAt ms k).t.slots.length) ((mAt ms k).sc) ∧ f' 15 = .int .i64 ((mAt ms k).t.slots.length : Int) ∧ w.grownBy w' none) ((mAt ms k).t.slots.length - 0) ⟨0, rfl, (Nat.zero_le _), (by rw [preR_zero]; exact (hJ _ _ _ none hJk (low1 hN122.grw hS125.grw (Nat.le_trans ((World.grownBy.refl _ none)).size (Nat.le_of_eq hN122.eq.symm))) (fun r e => by cases e))), rfl, e106, e107, e108, e105, rfl, rfl, hb126⟩ ?_
  rintro mm f127 w128 ⟨j, hm130, hj, hJj, e131, e132, e133, e134, e135, e136, e137, hb129⟩
  refine wpg_seq_region wd_wide ?_
  refine wpo_lss (q := decide ((j : Int) < ((mAt ms k).t.slots.length : Int))) e131 e137 rfl rfl ?_
  refine wpo_nil ?_
  refine wpg_seq ?_
  refine wpg_cond rfl (fun h138 => ?_) (fun h138 => ?_)
  ·
   have h139 := of_decide_eq_true h138
   refine wpg_skip ?_
   refine thn_n ?_
   refine wpg_seq ?_
   refine wpg_block ?_
   refine wpg_seq_region wd_wide ?_
   obtain ⟨b142, q143, o144, ha145, ho146, hr147⟩ := SlAt.at (TabAt.th (TabAt.low ht hb129) (mAt_get (show k < ms.length by omega))).1 (map_get (rAt_get (show j < (mAt ms k).t.slots.length by omega)))
   refine wpo_indexE es_27 e136 e131 ha145 ho146 (by omega) (by omega) rfl ?_
   refine wpo_loadn (vs := [.int .i64 ((rAt (mAt ms k).t.slots j).th), .int .i64 ((rAt (mAt ms k).t.slots j).ve), .bool ((rAt (mAt ms k).t.slots j).rd), .bool ((rAt (mAt ms k).t.slots j).wr), .bool ((rAt (mAt ms k).t.slots j).wk)]) rt_29 rfl rfl (range_sub hr147 0 5 rfl) rfl ?_
   refine wpo_alloc (cs := #[.int .i64 0, .int .i64 0, .bool false, .bool false, .bool false]) zt_29 rfl rfl ?_
   intro B148 w149 hN150
   have hlB148 := hN_ge hN150 hb129
   have hb151 := low0 hb129 hN150.grw
   refine wpo_storen (vs := [.int .i64 ((rAt (mAt ms k).t.slots j).th), .int .i64 ((rAt (mAt ms k).t.slots j).ve), .bool ((rAt (mAt ms k).t.slots j).rd), .bool ((rAt (mAt ms k).t.slots j).wr), .bool ((rAt (mAt ms k).t.slots j).wk)]) (cs' := #[.int .i64 ((rAt (mAt ms k).t.slots j).th), .int .i64 ((rAt (mAt ms k).t.slots j).ve), .bool ((rAt (mAt ms k).t.slots j).rd), .bool ((rAt (mAt ms k).t.slots j).wr), .bool ((rAt (mAt ms k).t.slots j).wk)]) rt_29 rfl rfl rfl (by simp [Value.oneCell']) hN150.blk (Nat.le_of_ble_eq_true rfl) rfl ?_
   intro w152 hS153
   have hb154 := low1 hb151 hS153.grw (by omega)
   refine wpo_nil ?_
   refine wpg_seq ?_
   refine wpg_region' ?_
   refine wpog_at 2 wd_wide (by kernel_rfl) ?_
   simp only [List.take_succ_cons, List.take_zero]
   refine wpo_move (v := .func (.yield l) #[] #[]) e132 rfl ?_
   refine wpo_loadn (vs := [.int .i64 ((rAt (mAt ms k).t.slots j).th), .int .i64 ((rAt (mAt ms k).t.slots j).ve), .bool ((rAt (mAt ms k).t.slots j).rd), .bool ((rAt (mAt ms k).t.slots j).wr), .bool ((rAt (mAt ms k).t.slots j).wk)]) rt_29 rfl rfl (hS153.blk.rangeL 0 5 rfl) rfl ?_
   refine wpo_nil ?_
   simp only [List.drop_succ_cons, List.drop_zero]
   refine wpog_yield wd_wide rfl rfl (vs := [.agg #[.int .i64 ((rAt (mAt ms k).t.slots j).th), .int .i64 ((rAt (mAt ms k).t.slots j).ve), .bool ((rAt (mAt ms k).t.slots j).rd), .bool ((rAt (mAt ms k).t.slots j).wr), .bool ((rAt (mAt ms k).t.slots j).wk)]]) (args_cons rfl args_nil) rfl (hY (preR ms k j) _ _ (hJ _ _ _ none hJj (low1 hN150.grw hS153.grw (Nat.le_trans ((World.grownBy.refl _ none)).size (Nat.le_of_eq hN150.eq.symm))) (fun r e => by cases e)) (preR_lt (by omega) (by omega))) ?_
   rintro _ w155 (⟨rfl, hJ157, hg156⟩ | ⟨rfl, hJx158⟩)
   ·
    refine ⟨true, rfl, ?_⟩
    have hb159 := grown_below hb154 hg156
    refine wpog_of wd_wide (by kernel_rfl) ?_
    refine wpo_not (b' := false) rfl rfl rfl ?_
    refine wpo_nil ?_
    refine thn_n ?_
    refine wpg_condf rfl rfl ?_
    refine wpg_skip ?_
    refine blk_n ?_
    refine thn_n ?_
    refine wpg_region wd_wide ?_
    refine wpo_add (c := (j : Int) + 1) e131 rfl (by omega) (by omega) (by omega) rfl ?_
    refine wpo_move (v := .int .i64 ((j : Int) + 1)) rfl rfl ?_
    refine wpo_nil ?_
    refine thn_n ?_
    exact ⟨(mAt ms k).t.slots.length - (j + 1), by omega, (j + 1), rfl, (by omega), (by rw [← preR_snoc (by omega)]; exact hJ157), rfl, e132, e133, e134, e135, e136, e137, hb159⟩
   ·
    refine ⟨false, rfl, ?_⟩
    refine wpog_of wd_wide (by kernel_rfl) ?_
    refine wpo_not (b' := true) rfl rfl rfl ?_
    refine wpo_nil ?_
    refine thn_n ?_
    refine wpg_condt rfl rfl ?_
    refine wpg_ret ?_
    refine blk_r ?_
    refine thn_r ?_
    refine thn_r ?_
    refine blk_r ?_
    refine blk_r ?_
    refine thn_r ?_
    refine thn_r ?_
    refine blk_r ?_
    refine ⟨.tuple #[], res0 rfl, Or.inr ⟨_, preR_prefix (k := k) (j := j + 1) (by omega), ?_⟩⟩
    rw [← preR_snoc (k := k) (j := j) (by omega)]
    exact hJx158
  ·
   have h160 := of_decide_eq_false h138
   refine wpg_exit ?_
   refine thn_e ?_
   refine thn_e ?_
   refine blk_e ?_
   refine blk_n ?_
   refine thn_n ?_
   refine wpg_region wd_wide ?_
   refine wpo_add (c := (k : Int) + 1) e135 rfl (by omega) (by omega) (by omega) rfl ?_
   refine wpo_move (v := .int .i64 ((k : Int) + 1)) rfl rfl ?_
   refine wpo_nil ?_
   refine thn_n ?_
   exact ⟨ms.length - (k + 1), by omega, (k + 1), rfl, (by omega), (by rw [← preR_next (j := j) (by omega) (by omega)]; exact hJj), rfl, e132, e133, e134, hb129⟩
 ·
  have h161 := of_decide_eq_false h109
  refine wpg_exit ?_
  refine thn_e ?_
  refine thn_e ?_
  refine blk_e ?_
  refine ⟨.tuple #[], res0 rfl, Or.inl ⟨_, rfl, ?_⟩⟩
  have kk := hJk
  rw [allR_take (by omega)] at kk
  exact kk
theorem TableOk_c (w : World) (ms : List MTh) (a : Option Addr) (c : Nat) (ht : TabAt w a ms) (hlen : TabLen ms) (hn : ms.length ≤ 1048576) : CallsR Try.prog 83 #[.slice a ms.length c] w (fun v w' => v = .bool (tableOk (tabT ms)) ∧ w.grownBy w' none) := by
 refine callsA (n := 53) (m := 9) Try.func83 rfl Try.ntmps83 rfl ?_
 have hb0 := World.grownBy.refl w none
 refine wpa_seq_region ?_
 refine wpo_box (v := .slice a ms.length c) (cs := #[.slice a ms.length c]) rfl rfl rfl ?_
 intro B101 w102 hN103
 have hlB101 := hN_ge hN103 hb0
 have hb104 := low0 hb0 hN103.grw
 refine wpo_alloc (cs := #[.bool false]) zt_4 rfl rfl ?_
 intro B105 w106 hN107
 have hlB105 := hN_ge hN107 hb104
 have lt_B101_B105 := hN_gtl hN107 (hN103.blk).lt
 have hb108 := low0 hb104 hN107.grw
 refine wpo_nil ?_
 refine wpa_seq ?_
 refine wpf_seq_region ?_
 have k109 := (hN103.blk.grown0 hN107.grw)
 refine wpo_load1 (v := .slice a ms.length c) ot_54 rfl (k109.cell rfl) rfl ?_
 refine wpo_len (by kernel_rfl) rfl rfl ?_
 refine wpo_call (vs := [.int .i64 (ms.length : Int), .int .i64 1, .int .i64 8]) gf_69 (args_cons rfl (args_cons rfl (args_cons rfl args_nil))) rfl (inRange_c (ms.length : Int) 1 8 _) ?_
 rintro _ w110 ⟨rfl, hg111⟩
 have hb112 := low0 hb108 hg111
 refine wpo_not (b' := !inR (ms.length : Int) 1 8) rfl rfl rfl ?_
 refine wpo_nil ?_
 refine wpf_cond rfl (fun h113 => ?_) (fun h113 => ?_)
 ·
  have h114 := nt_t h113
  refine wpf_seq_region ?_
  have k115 := (hN107.blk.grown0 hg111)
  refine wpo_store1 (v := .bool false) (cs' := #[.bool false]) ot_4 rfl rfl rfl k115 (Nat.le_of_ble_eq_true rfl) rfl ?_
  intro w116 hS117
  have hb118 := low1 hb112 hS117.grw (by omega)
  refine wpo_nil ?_
  refine wpf_ret ?_
  refine thn_r ?_
  exact endA (resC rfl (resCell_mk1 ot_4 rfl (hS117.blk.cell rfl))) ⟨congrArg Value.bool (tabi_len h114).symm, hb118⟩
 ·
  have h119 := nt_f h113
  have hr120 := inR_iff.1 h119
  refine wpf_skip ?_
  refine thn_n ?_
  refine wpa_seq ?_
  refine wpf_seq_region ?_
  have k121 := (k109.grown0 hg111)
  refine wpo_load1 (v := .slice a ms.length c) ot_54 rfl (k121.cell rfl) rfl ?_
  refine wpo_len (by kernel_rfl) rfl rfl ?_
  refine wpo_move (v := .int .i64 0) rfl rfl ?_
  refine wpo_nil ?_
  refine wpf_block ?_
  have k122 := (hN107.blk.grown0 hg111)
  refine wpf_loopN (fun mm f' w' => ∃ (k : Nat), mm = ms.length - k ∧ k ≤ ms.length ∧ (((tabT ms).take k).all (headOk (tabT ms))) = true ∧ f' 12 = .int .i64 (k : Int) ∧ f' 0 = .slice a ms.length c ∧ f' 1 = .pointer (some ⟨B101, 0, none⟩) ∧ f' 2 = .pointer (some ⟨B105, 0, none⟩) ∧ f' 10 = .slice a ms.length c ∧ f' 11 = .int .i64 (ms.length : Int) ∧ w.grownBy w' none ∧ Blk w' B101 54 #[.slice a ms.length c] ∧ Blk w' B105 4 #[.bool false]) (ms.length - 0) ⟨0, rfl, (Nat.zero_le _), rfl, rfl, rfl, rfl, rfl, rfl, rfl, hb112, k121, k122⟩ ?_
  rintro mm f123 w124 ⟨k, hm126, hk, hall, e127, e128, e129, e130, e131, e132, hb125, k133, k134⟩
  refine wpf_seq_region ?_
  refine wpo_lss (q := decide ((k : Int) < (ms.length : Int))) e127 e132 rfl rfl ?_
  refine wpo_nil ?_
  refine wpf_seq ?_
  refine wpf_cond rfl (fun h135 => ?_) (fun h135 => ?_)
  ·
   have h136 := of_decide_eq_true h135
   refine wpf_skip ?_
   refine thn_n ?_
   refine wpf_seq ?_
   refine wpf_block ?_
   refine wpf_seq_region ?_
   obtain ⟨b139, q140, o141, ha142, ho143, hr144⟩ := SlAt.at (TabAt.low ht hb125).1 (map_get (mAt_get (show k < ms.length by omega)))
   have hle145 := TabLen.at hlen (mAt_get (show k < ms.length by omega))
   refine wpo_indexE es_54 e131 e127 ha142 ho143 (by omega) (by omega) rfl ?_
   refine wpo_loadn (vs := [.int .i64 ((mAt ms k).t.kind), .int .i64 ((mAt ms k).t.lab.s), .int .i64 ((mAt ms k).t.lab.v), .int .i64 ((mAt ms k).t.ve), .int .i64 ((mAt ms k).t.num), .slice ((mAt ms k).sa) ((mAt ms k).t.slots.length) ((mAt ms k).sc), .slice ((mAt ms k).qa) ((mAt ms k).t.queue.length) ((mAt ms k).qc), .int .i64 ((mAt ms k).t.to)]) rt_45 rfl rfl (range_sub hr144 0 8 rfl) rfl ?_
   refine wpo_alloc (cs := #[.int .i64 0, .int .i64 0, .int .i64 0, .int .i64 0, .int .i64 0, .slice none 0 0, .slice none 0 0, .int .i64 0]) zt_45 rfl rfl ?_
   intro B146 w147 hN148
   have hlB146 := hN_ge hN148 hb125
   have lt_B101_B146 := hN_gtl hN148 (k133).lt
   have lt_B105_B146 := hN_gtl hN148 (k134).lt
   have hb149 := low0 hb125 hN148.grw
   refine wpo_storen (vs := [.int .i64 ((mAt ms k).t.kind), .int .i64 ((mAt ms k).t.lab.s), .int .i64 ((mAt ms k).t.lab.v), .int .i64 ((mAt ms k).t.ve), .int .i64 ((mAt ms k).t.num), .slice ((mAt ms k).sa) ((mAt ms k).t.slots.length) ((mAt ms k).sc), .slice ((mAt ms k).qa) ((mAt ms k).t.queue.length) ((mAt ms k).qc), .int .i64 ((mAt ms k).t.to)]) (cs' := #[.int .i64 ((mAt ms k).t.kind), .int .i64 ((mAt ms k).t.lab.s), .int .i64 ((mAt ms k).t.lab.v), .int .i64 ((mAt ms k).t.ve), .int .i64 ((mAt ms k).t.num), .slice ((mAt ms k).sa) ((mAt ms k).t.slots.length) ((mAt ms k).sc), .slice ((mAt ms k).qa) ((mAt ms k).t.queue.length) ((mAt ms k).qc), .int .i64 ((mAt ms k).t.to)]) rt_45 rfl rfl rfl (by simp [Value.oneCell']) hN148.blk (Nat.le_of_ble_eq_true rfl) rfl ?_
   intro w150 hS151
   have hb152 := low1 hb149 hS151.grw (by omega)
   refine wpo_nil ?_
   refine wpf_seq ?_
   refine wpf_seq_region ?_
   refine wpo_loadn (vs := [.int .i64 ((mAt ms k).t.kind), .int .i64 ((mAt ms k).t.lab.s), .int .i64 ((mAt ms k).t.lab.v), .int .i64 ((mAt ms k).t.ve), .int .i64 ((mAt ms k).t.num), .slice ((mAt ms k).sa) ((mAt ms k).t.slots.length) ((mAt ms k).sc), .slice ((mAt ms k).qa) ((mAt ms k).t.queue.length) ((mAt ms k).qc), .int .i64 ((mAt ms k).t.to)]) rt_45 rfl rfl (hS151.blk.rangeL 0 8 rfl) rfl ?_
   refine wpo_call (vs := [.agg #[.int .i64 ((mAt ms k).t.kind), .int .i64 ((mAt ms k).t.lab.s), .int .i64 ((mAt ms k).t.lab.v), .int .i64 ((mAt ms k).t.ve), .int .i64 ((mAt ms k).t.num), .slice ((mAt ms k).sa) ((mAt ms k).t.slots.length) ((mAt ms k).sc), .slice ((mAt ms k).qa) ((mAt ms k).t.queue.length) ((mAt ms k).qc), .int .i64 ((mAt ms k).t.to)]]) gf_26 (args_cons rfl args_nil) rfl (ThingOk_c (mAt ms k) _ (TabAt.th (TabAt.low ht hb152) (mAt_get (show k < ms.length by omega))).1 (TabAt.th (TabAt.low ht hb152) (mAt_get (show k < ms.length by omega))).2.1 (by first | omega | exact Nat.le_of_ble_eq_true rfl | (simp only [List.length_nil, List.length_cons, List.length_append, List.length_replicate]; omega)) (by first | omega | exact Nat.le_of_ble_eq_true rfl | (simp only [List.length_nil, List.length_cons, List.length_append, List.length_replicate]; omega))) ?_
   rintro _ w153 ⟨rfl, hg154⟩
   have hb155 := low0 hb152 hg154
   refine wpo_not (b' := !thingOk (mAt ms k).t) rfl rfl rfl ?_
   refine wpo_nil ?_
   refine wpf_cond rfl (fun h156 => ?_) (fun h156 => ?_)
   ·
    have h157 := nt_t h156
    refine wpf_seq_region ?_
    have k158 := (((k134.grown0 hN148.grw).grown hS151.grw (some_ne (by omega))).grown0 hg154)
    refine wpo_store1 (v := .bool false) (cs' := #[.bool false]) ot_4 e130 rfl rfl k158 (Nat.le_of_ble_eq_true rfl) rfl ?_
    intro w159 hS160
    have hb161 := low1 hb155 hS160.grw (by omega)
    refine wpo_nil ?_
    refine wpf_ret ?_
    refine thn_r ?_
    refine blk_r ?_
    refine thn_r ?_
    refine thn_r ?_
    refine blk_r ?_
    refine thn_r ?_
    exact endA (resC rfl (resCell_mk1 ot_4 e130 (hS160.blk.cell rfl))) ⟨congrArg Value.bool (tabi_no (k := k) (by omega) (by unfold headOk; rw [h157]; rfl)).symm, hb161⟩
   ·
    have h162 := nt_f h156
    refine wpf_skip ?_
    refine thn_n ?_
    refine wpf_seq_region_mid (fun f' w' => (f' 0 = .slice a ms.length c ∧ f' 1 = .pointer (some ⟨B101, 0, none⟩) ∧ f' 2 = .pointer (some ⟨B105, 0, none⟩) ∧ f' 10 = .slice a ms.length c ∧ f' 11 = .int .i64 (ms.length : Int) ∧ f' 12 = .int .i64 (k : Int) ∧ f' 28 = .bool ((decide ((mAt ms k).t.kind = 5)) && (!kindAt (tabT ms) ((mAt ms k).t.to) 1))) ∧ w153.grownBy w' none) ?_ ?_
    ·
     refine wpo_fieldAddr (o' := 0) fo_45_0 rfl rfl rfl ?_
     have k169 := (hS151.blk.grown0 hg154)
     refine wpo_load1 (v := .int .i64 ((mAt ms k).t.kind)) ot_3 rfl (k169.cell rfl) rfl ?_
     refine wpo_eql (q := decide ((mAt ms k).t.kind = 5)) rfl rfl rfl rfl ?_
     refine wpo_move (v := .bool (decide ((mAt ms k).t.kind = 5))) rfl rfl ?_
     rcases bcases (decide ((mAt ms k).t.kind = 5)) with h170 | h170
     ·
      have hgt171 := th_gate h162 h170
      have h172 := of_decide_eq_true h170
      refine wpo_run rfl rfl rfl h170 ?_
      have k173 := (((k133.grown0 hN148.grw).grown hS151.grw (some_ne (by omega))).grown0 hg154)
      refine wpo_load1 (v := .slice a ms.length c) ot_54 e129 (k173.cell rfl) rfl ?_
      refine wpo_run rfl rfl rfl h170 ?_
      refine wpo_fieldAddr (o' := 7) fo_45_6 rfl rfl rfl ?_
      refine wpo_run rfl rfl rfl h170 ?_
      refine wpo_load1 (v := .int .i64 ((mAt ms k).t.to)) ot_3 rfl (k169.cell rfl) rfl ?_
      refine wpo_run rfl rfl rfl h170 ?_
      refine wpo_call (vs := [.slice a ms.length c, .int .i64 ((mAt ms k).t.to), .int .i64 1]) gf_103 (args_cons rfl (args_cons rfl (args_cons rfl args_nil))) rfl (kindAt_c ((mAt ms k).t.to) 1 (by omega) _ ms _ _ (TabAt.low ht hb155) hlen (by omega)) ?_
      rintro _ w174 ⟨rfl, hg175⟩
      have hb176 := low0 hb155 hg175
      refine wpo_run rfl rfl rfl h170 ?_
      refine wpo_not (b' := !kindAt (tabT ms) ((mAt ms k).t.to) 1) rfl rfl rfl ?_
      refine wpo_pickt (v := .bool (!kindAt (tabT ms) ((mAt ms k).t.to) 1)) rfl h170 rfl rfl ?_
      exact wpo_nil ⟨⟨e128, e129, e130, e131, e132, e127, (congrArg Value.bool (by first | (simp only [h113, h119, h135, h156, h162, h170, b0, b1, b2, b3, b4, b5, b6, b7, b8, b9]; done) | simp [h113, h119, h135, h156, h162, h170]))⟩, hg175⟩
     ·
      have h177 := of_decide_eq_false h170
      iterate 5 refine wpo_pass rfl rfl rfl h170 rfl ?_
      refine wpo_pickf (v := .bool false) rfl h170 rfl rfl ?_
      exact wpo_nil ⟨⟨e128, e129, e130, e131, e132, e127, (congrArg Value.bool (by first | (simp only [h113, h119, h135, h156, h162, h170, b0, b1, b2, b3, b4, b5, b6, b7, b8, b9]; done) | simp [h113, h119, h135, h156, h162, h170]))⟩, (World.grownBy.refl _ _)⟩
    ·
     rintro f178 w179 ⟨⟨e180, e181, e182, e183, e184, e185, e186⟩, hg187⟩
     have hb188 := low0 hb155 hg187
     refine wpf_cond e186 (fun h189 => ?_) (fun h189 => ?_)
     ·
      have h190 := and_l h189
      have hgt191 := th_gate h162 h190
      have h192 := of_decide_eq_true h190
      have h193 := and_r h189
      have h194 := nt_t h193
      refine wpf_seq_region ?_
      have k195 := ((((k134.grown0 hN148.grw).grown hS151.grw (some_ne (by omega))).grown0 hg154).grown0 hg187)
      refine wpo_store1 (v := .bool false) (cs' := #[.bool false]) ot_4 e182 rfl rfl k195 (Nat.le_of_ble_eq_true rfl) rfl ?_
      intro w196 hS197
      have hb198 := low1 hb188 hS197.grw (by omega)
      refine wpo_nil ?_
      refine wpf_ret ?_
      refine blk_r ?_
      refine thn_r ?_
      refine thn_r ?_
      refine blk_r ?_
      refine thn_r ?_
      exact endA (resC rfl (resCell_mk1 ot_4 e182 (hS197.blk.cell rfl))) ⟨congrArg Value.bool (tabi_no (k := k) (by omega) (by unfold headOk; rw [nt_t (gate_i.symm.trans h189), Bool.and_false])).symm, hb198⟩
     ·
      refine wpf_skip ?_
      refine blk_n ?_
      refine thn_n ?_
      refine wpf_region ?_
      refine wpo_add (c := (k : Int) + 1) e185 rfl (by omega) (by omega) (by omega) rfl ?_
      refine wpo_move (v := .int .i64 ((k : Int) + 1)) rfl rfl ?_
      refine wpo_nil ?_
      refine thn_n ?_
      have k199 := ((((k133.grown0 hN148.grw).grown hS151.grw (some_ne (by omega))).grown0 hg154).grown0 hg187)
      have k200 := ((((k134.grown0 hN148.grw).grown hS151.grw (some_ne (by omega))).grown0 hg154).grown0 hg187)
      exact ⟨ms.length - (k + 1), by omega, (k + 1), rfl, (by omega), (take_all_succ (p := headOk (tabT ms)) hall (tab_at (by omega)) (by unfold headOk; rw [h162, nt_f (gate_i.symm.trans h189)]; rfl)), rfl, e180, e181, e182, e183, e184, hb188, k199, k200⟩
  ·
   have h201 := of_decide_eq_false h135
   refine wpf_exit ?_
   refine thn_e ?_
   refine thn_e ?_
   refine blk_e ?_
   refine thn_n ?_
   refine wpa_seqT ?_
   refine wpa_seq_region ?_
   refine wpo_load1 (v := .slice a ms.length c) ot_54 e129 (k133.cell rfl) rfl ?_
   refine wpo_call (vs := [.slice a ms.length c]) gf_104 (args_cons rfl args_nil) rfl (allRights_c _ ms _ _) ?_
   rintro _ w206 ⟨B202, rfl, hge203, k204, hg205⟩
   have hb207 := low0 hb125 hg205
   have hlB202 := Nat.le_trans hb125.size hge203
   have lt_B101_B202 := Nat.lt_of_lt_of_le (k133).lt hge203
   have lt_B105_B202 := Nat.lt_of_lt_of_le (k134).lt hge203
   refine wpo_nil ?_
   have k208 := (k133.grown0 hg205)
   have k209 := (k134.grown0 hg205)
   refine wpa_gen (fun f' => f' 1 = .pointer (some ⟨B101, 0, none⟩) ∧ f' 2 = .pointer (some ⟨B105, 0, none⟩) ∧ f' 31 = .func (.func 115) #[] #[.pointer (some ⟨B202, 0, none⟩)]) ⟨e129, e130, rfl⟩ ?_
   rintro fT ⟨e1, e2, e3⟩ a0 ha
   obtain ⟨tm, df⟩ := a0
   obtain rfl : df = [] := ha.defers
   have hlb2 : B105 < w206.heap.size := (k209).lt
   refine wpIn_block ?_
   refine wpIn_rangeFunc_ownH (F := Fence.wide) (n := 9) rfl (by omega) (gf := 115) (lb := #[.pointer (some ⟨B202, 0, none⟩)]) (by rw [ha.eval]; exact e3) trivial (enters_of Try.func115 (by kernel_rfl) rfl) (rights_stops 8 w206 B202 ms a c (TabAt.low ht hb207) hlen hn k204) belowK_t (belowK_b (Nat.le_refl _)) (Below.refl _ _) (fun _ => rfl) (fun pre W => w.grownBy W none ∧ Blk W B101 54 #[.slice a ms.length c] ∧ Blk W B105 4 #[.bool false] ∧ pre.all (rightTo (tabT ms)) = true ∧ w206.heap.size ≤ W.heap.size) (fun c pre W => c = .ret ∧ w.grownBy W none ∧ Blk W B105 4 #[.bool false] ∧ pre.all (rightTo (tabT ms)) = false) (fun s A B row hs hg hr => ⟨own_grown hs.1 hg hb207.size hr, own_blk hs.2.1 hg hr, own_blk hs.2.2.1 hg hr, hs.2.2.2.1, Nat.le_trans hs.2.2.2.2 hg.size⟩) (fun c s A B row hs hg hr => ⟨hs.1, own_grown hs.2.1 hg hb207.size hr, own_blk hs.2.2.1 hg hr, hs.2.2.2⟩) ⟨hb207, k208, k209, rfl, Nat.le_refl _⟩ (fun x a' W => ∃ (Bx : Nat) (f' : Fr), Blk W Bx 29 x.cells.toArray ∧ FEq 53 a' f' ∧ f' 5 = .pointer (some ⟨Bx, 0, none⟩) ∧ f' 1 = .pointer (some ⟨B101, 0, none⟩) ∧ f' 2 = .pointer (some ⟨B105, 0, none⟩)) (fun x a' _ A B row hs hg hr => by obtain ⟨Bx, f', h1, h2⟩ := hs; exact ⟨Bx, f', own_blk h1 hg hr, h2⟩) ?assign ?body ?done ?stop
   case assign =>
    intro l pre x W K hi hK
    refine wpIn_mono ((?_ : Wpg (Fence.wide.inRound l) (9 - 1 - 1) Try.prog 53 (fun e f' w' => e = .normal ∧ ∃ Bx : Nat, W.grownBy w' none ∧ Blk w' Bx 29 x.cells.toArray ∧ f' 5 = .pointer (some ⟨Bx, 0, none⟩) ∧ f' 1 = .pointer (some ⟨B101, 0, none⟩) ∧ f' 2 = .pointer (some ⟨B105, 0, none⟩)) _ (up fT 32 (.agg x.cells.toArray)) W) _ (by have hp := ha.put (d := 32) rfl (.agg x.cells.toArray); simpa [Act.put] using hp)) ?_
    ·
     have hlW := hi.2.2.2.2
     refine wpg_region (wd_round l) ?_
     refine wpo_alloc (cs := #[.int .i64 0, .int .i64 0, .bool false, .bool false, .bool false]) zt_29 rfl rfl ?_
     intro B210 w211 hN212
     have hlB210 := hN_ge hN212 hi.1
     have hb213 := low0 hi.1 hN212.grw
     refine wpo_storen (vs := [.int .i64 x.th, .int .i64 x.ve, .bool x.rd, .bool x.wr, .bool x.wk]) (cs' := #[.int .i64 x.th, .int .i64 x.ve, .bool x.rd, .bool x.wr, .bool x.wk]) rt_29 rfl rfl rfl (by simp [Value.oneCell']) hN212.blk (Nat.le_of_ble_eq_true rfl) rfl ?_
     intro w214 hS215
     have hb216 := low1 hb213 hS215.grw (by omega)
     refine wpo_nil ?_
     exact ⟨rfl, B210, (low1 hN212.grw hS215.grw (Nat.le_trans ((World.grownBy.refl _ none)).size (Nat.le_of_eq hN212.eq.symm))), hS215.blk, rfl, e1, e2⟩
    ·
     rintro e a' w' ⟨f', hf', rfl, Bx, hg, hb, h5, h1, h2⟩
     exact hK a' w' (KeepsFrom.of_grownBy hg (fun j e => by cases e)) (below_none hg hi.2.2.2.2) ⟨low0 hi.1 hg, hi.2.1.grown0 hg, hi.2.2.1.grown0 hg, hi.2.2.2.1, Nat.le_trans hi.2.2.2.2 hg.size⟩ ⟨Bx, f', hb, hf', h5, h1, h2⟩
   case body =>
    rintro l pre x a' W hl hr hi ⟨Bx, f', hbx, hf', h5, h1, h2⟩ hlt
    refine wpIn_mono ((?_ : Wpg (Fence.wide.inRound l) (9 - 1 - 1) Try.prog 53 (fun e f'' w' => (e = .normal ∧ W.grownBy w' none ∧ rightTo (tabT ms) x = true) ∨ (e = .ret ∧ W.grownBy w' (some B105) ∧ w.grownBy w' none ∧ Blk w' B105 4 #[.bool false] ∧ rightTo (tabT ms) x = false)) _ f' W) a' hf') ?_
    ·
     refine wpg_block ?_
     refine wpg_seq ?_
     refine wpg_seq_region (wd_round l) ?_
     refine wpo_fieldAddr (o' := 0) fo_29_0 h5 rfl rfl ?_
     refine wpo_load1 (v := .int .i64 x.th) ot_3 rfl (hbx.cell rfl) rfl ?_
     refine wpo_eql (q := decide (x.th = 0)) rfl rfl rfl rfl ?_
     refine wpo_nil ?_
     refine wpg_cond rfl (fun h217 => ?_) (fun h217 => ?_)
     ·
      have h218 := of_decide_eq_true h217
      refine wpg_exit ?_
      refine thn_e ?_
      refine blk_e ?_
      exact Or.inl ⟨rfl, (World.grownBy.refl _ _), rightTo_z h217⟩
     ·
      have h219 := of_decide_eq_false h217
      refine wpg_skip ?_
      refine thn_n ?_
      refine wpg_seq_mid (fun f' w' => (f' 2 = .pointer (some ⟨B105, 0, none⟩) ∧ f' 52 = .bool ((!inR x.th 1 (ms.length : Int)) || (decide ((mAt ms ((x.th - 1).toNat)).t.ve < x.ve)))) ∧ W.grownBy w' none) ?_ ?_
      ·
       rcases bcases (!inR x.th 1 (ms.length : Int)) with h240 | h240
       ·
        have h241 := nt_t h240
        refine wpg_draw (wd_round l) (m := 15) (vals := [(36, .slice a ms.length c), (37, .pointer (some ⟨Bx, 0, none⟩)), (38, .int .i64 x.th), (39, .bool (inR x.th 1 (ms.length : Int))), (40, .bool (!inR x.th 1 (ms.length : Int))), (41, .bool (!inR x.th 1 (ms.length : Int))), (42, undef), (43, undef), (44, undef), (45, undef), (46, undef), (47, undef), (48, undef), (49, undef), (50, undef)]) (fun w' => W.grownBy w' none) mixed_ (by kernel_rfl) (grown_drew _) ?_ ?_
        ·
         refine yll_cons rfl (fun w251 hi252 => ?_) ?_
         ·
          have hb253 := low0 hi.1 hi252
          have k254 := (hi.2.1.grown0 hi252)
          refine wpo_load1 (v := .slice a ms.length c) ot_54 h1 (k254.cell rfl) rfl ?_
          exact wpo_nil ⟨rfl, hi252⟩
         refine yll_cons rfl (fun w255 hi256 => ?_) ?_
         ·
          have hb257 := low0 hi.1 hi256
          refine wpo_fieldAddr (o' := 0) fo_29_0 h5 rfl rfl ?_
          exact wpo_nil ⟨rfl, hi256⟩
         refine yll_cons rfl (fun w258 hi259 => ?_) ?_
         ·
          have hb260 := low0 hi.1 hi259
          have k261 := (hbx.grown0 hi259)
          refine wpo_load1 (v := .int .i64 x.th) ot_3 rfl (k261.cell rfl) rfl ?_
          exact wpo_nil ⟨rfl, hi259⟩
         refine yll_cons rfl (fun w262 hi263 => ?_) ?_
         ·
          have hb264 := low0 hi.1 hi263
          refine wpo_call (vs := [.slice a ms.length c, .int .i64 x.th]) gf_84 (args_cons rfl (args_cons rfl args_nil)) rfl (thingExists_c x.th _ _ _ _) ?_
          rintro _ w265 ⟨rfl, hg266⟩
          have hb267 := low0 hb264 hg266
          exact wpo_nil ⟨rfl, (grown_trans hi263 hg266)⟩
         refine yll_cons rfl (fun w268 hi269 => ?_) ?_
         ·
          have hb270 := low0 hi.1 hi269
          refine wpo_not (b' := !inR x.th 1 (ms.length : Int)) rfl rfl rfl ?_
          exact wpo_nil ⟨rfl, hi269⟩
         refine yll_cons rfl (fun w271 hi272 => ?_) ?_
         ·
          have hb273 := low0 hi.1 hi272
          refine wpo_move (v := .bool (!inR x.th 1 (ms.length : Int))) rfl rfl ?_
          exact wpo_nil ⟨rfl, hi272⟩
         refine yll_cons rfl (fun w274 hi275 => ?_) ?_
         ·
          have hb276 := low0 hi.1 hi275
          refine wpo_pass rfl rfl rfl h240 rfl ?_
          exact wpo_nil ⟨rfl, hi275⟩
         refine yll_cons rfl (fun w277 hi278 => ?_) ?_
         ·
          have hb279 := low0 hi.1 hi278
          refine wpo_pass rfl rfl rfl h240 rfl ?_
          exact wpo_nil ⟨rfl, hi278⟩
         refine yll_cons rfl (fun w280 hi281 => ?_) ?_
         ·
          have hb282 := low0 hi.1 hi281
          refine wpo_pass rfl rfl rfl h240 rfl ?_
          exact wpo_nil ⟨rfl, hi281⟩
         refine yll_cons rfl (fun w283 hi284 => ?_) ?_
         ·
          have hb285 := low0 hi.1 hi284
          refine wpo_pass rfl rfl rfl h240 rfl ?_
          exact wpo_nil ⟨rfl, hi284⟩
         refine yll_cons rfl (fun w286 hi287 => ?_) ?_
         ·
          have hb288 := low0 hi.1 hi287
          refine wpo_pass rfl rfl rfl h240 rfl ?_
          exact wpo_nil ⟨rfl, hi287⟩
         refine yll_cons rfl (fun w289 hi290 => ?_) ?_
         ·
          have hb291 := low0 hi.1 hi290
          refine wpo_pass rfl rfl rfl h240 rfl ?_
          exact wpo_nil ⟨rfl, hi290⟩
         refine yll_cons rfl (fun w292 hi293 => ?_) ?_
         ·
          have hb294 := low0 hi.1 hi293
          refine wpo_pass rfl rfl rfl h240 rfl ?_
          exact wpo_nil ⟨rfl, hi293⟩
         refine yll_cons rfl (fun w295 hi296 => ?_) ?_
         ·
          have hb297 := low0 hi.1 hi296
          refine wpo_pass rfl rfl rfl h240 rfl ?_
          exact wpo_nil ⟨rfl, hi296⟩
         refine yll_cons rfl (fun w298 hi299 => ?_) ?_
         ·
          have hb300 := low0 hi.1 hi299
          refine wpo_pass rfl rfl rfl h240 rfl ?_
          exact wpo_nil ⟨rfl, hi299⟩
         exact yll_nil
        ·
         intro w301 hi302
         have hb303 := low0 hi.1 hi302
         refine wpo_pass rfl rfl rfl h240 rfl ?_
         refine wpo_pickt (v := .bool true) rfl h240 rfl rfl ?_
         exact wpo_nil (thn_n ⟨⟨h2, (congrArg Value.bool (by first | (simp only [h217, h240, h241, b0, b1, b2, b3, b4, b5, b6, b7, b8, b9]; done) | simp [h217, h240, h241]))⟩, hi302⟩)
       ·
        have h304 := nt_f h240
        have hr305 := inR_iff.1 h304
        obtain ⟨b327, q328, o329, ha330, ho331, hr332⟩ := SlAt.at (TabAt.low ht hi.1).1 (map_get (mAt_get (show (x.th - 1).toNat < ms.length by omega)))
        have hle333 := TabLen.at hlen (mAt_get (show (x.th - 1).toNat < ms.length by omega))
        refine wpg_draw (wd_round l) (m := 15) (vals := [(36, .slice a ms.length c), (37, .pointer (some ⟨Bx, 0, none⟩)), (38, .int .i64 x.th), (39, .bool (inR x.th 1 (ms.length : Int))), (40, .bool (!inR x.th 1 (ms.length : Int))), (41, .bool (!inR x.th 1 (ms.length : Int))), (42, .pointer (some ⟨Bx, 1, none⟩)), (43, .int .i64 x.ve), (44, .slice a ms.length c), (45, .pointer (some ⟨Bx, 0, none⟩)), (46, .int .i64 x.th), (47, .int .i64 (x.th - 1)), (48, .pointer (some ⟨b327, o329, none⟩)), (49, .pointer (some ⟨b327, o329 + 3, none⟩)), (50, .int .i64 ((mAt ms ((x.th - 1).toNat)).t.ve))]) (fun w' => W.grownBy w' none) mixed_ (by kernel_rfl) (grown_drew _) ?_ ?_
        ·
         refine yll_cons rfl (fun w339 hi340 => ?_) ?_
         ·
          have hb341 := low0 hi.1 hi340
          have k342 := (hi.2.1.grown0 hi340)
          refine wpo_load1 (v := .slice a ms.length c) ot_54 h1 (k342.cell rfl) rfl ?_
          exact wpo_nil ⟨rfl, hi340⟩
         refine yll_cons rfl (fun w343 hi344 => ?_) ?_
         ·
          have hb345 := low0 hi.1 hi344
          refine wpo_fieldAddr (o' := 0) fo_29_0 h5 rfl rfl ?_
          exact wpo_nil ⟨rfl, hi344⟩
         refine yll_cons rfl (fun w346 hi347 => ?_) ?_
         ·
          have hb348 := low0 hi.1 hi347
          have k349 := (hbx.grown0 hi347)
          refine wpo_load1 (v := .int .i64 x.th) ot_3 rfl (k349.cell rfl) rfl ?_
          exact wpo_nil ⟨rfl, hi347⟩
         refine yll_cons rfl (fun w350 hi351 => ?_) ?_
         ·
          have hb352 := low0 hi.1 hi351
          refine wpo_call (vs := [.slice a ms.length c, .int .i64 x.th]) gf_84 (args_cons rfl (args_cons rfl args_nil)) rfl (thingExists_c x.th _ _ _ _) ?_
          rintro _ w353 ⟨rfl, hg354⟩
          have hb355 := low0 hb352 hg354
          exact wpo_nil ⟨rfl, (grown_trans hi351 hg354)⟩
         refine yll_cons rfl (fun w356 hi357 => ?_) ?_
         ·
          have hb358 := low0 hi.1 hi357
          refine wpo_not (b' := !inR x.th 1 (ms.length : Int)) rfl rfl rfl ?_
          exact wpo_nil ⟨rfl, hi357⟩
         refine yll_cons rfl (fun w359 hi360 => ?_) ?_
         ·
          have hb361 := low0 hi.1 hi360
          refine wpo_move (v := .bool (!inR x.th 1 (ms.length : Int))) rfl rfl ?_
          exact wpo_nil ⟨rfl, hi360⟩
         refine yll_cons rfl (fun w362 hi363 => ?_) ?_
         ·
          have hb364 := low0 hi.1 hi363
          refine wpo_run rfl rfl rfl h240 ?_
          refine wpo_fieldAddr (o' := 1) fo_29_1 h5 rfl rfl ?_
          exact wpo_nil ⟨rfl, hi363⟩
         refine yll_cons rfl (fun w365 hi366 => ?_) ?_
         ·
          have hb367 := low0 hi.1 hi366
          refine wpo_run rfl rfl rfl h240 ?_
          have k368 := (hbx.grown0 hi366)
          refine wpo_load1 (v := .int .i64 x.ve) ot_3 rfl (k368.cell rfl) rfl ?_
          exact wpo_nil ⟨rfl, hi366⟩
         refine yll_cons rfl (fun w369 hi370 => ?_) ?_
         ·
          have hb371 := low0 hi.1 hi370
          refine wpo_run rfl rfl rfl h240 ?_
          have k372 := (hi.2.1.grown0 hi370)
          refine wpo_load1 (v := .slice a ms.length c) ot_54 h1 (k372.cell rfl) rfl ?_
          exact wpo_nil ⟨rfl, hi370⟩
         refine yll_cons rfl (fun w373 hi374 => ?_) ?_
         ·
          have hb375 := low0 hi.1 hi374
          refine wpo_run rfl rfl rfl h240 ?_
          refine wpo_fieldAddr (o' := 0) fo_29_0 h5 rfl rfl ?_
          exact wpo_nil ⟨rfl, hi374⟩
         refine yll_cons rfl (fun w376 hi377 => ?_) ?_
         ·
          have hb378 := low0 hi.1 hi377
          refine wpo_run rfl rfl rfl h240 ?_
          have k379 := (hbx.grown0 hi377)
          refine wpo_load1 (v := .int .i64 x.th) ot_3 rfl (k379.cell rfl) rfl ?_
          exact wpo_nil ⟨rfl, hi377⟩
         refine yll_cons rfl (fun w380 hi381 => ?_) ?_
         ·
          have hb382 := low0 hi.1 hi381
          refine wpo_run rfl rfl rfl h240 ?_
          refine wpo_sub (c := x.th - 1) rfl rfl (by omega) (by omega) (by omega) rfl ?_
          exact wpo_nil ⟨rfl, hi381⟩
         refine yll_cons rfl (fun w383 hi384 => ?_) ?_
         ·
          have hb385 := low0 hi.1 hi384
          refine wpo_run rfl rfl rfl h240 ?_
          refine wpo_indexE es_54 rfl rfl ha330 ho331 (by omega) (by omega) rfl ?_
          exact wpo_nil ⟨rfl, hi384⟩
         refine yll_cons rfl (fun w386 hi387 => ?_) ?_
         ·
          have hb388 := low0 hi.1 hi387
          refine wpo_run rfl rfl rfl h240 ?_
          refine wpo_fieldAddr (o' := o329 + 3) fo_45_2 rfl rfl rfl ?_
          exact wpo_nil ⟨rfl, hi387⟩
         refine yll_cons rfl (fun w389 hi390 => ?_) ?_
         ·
          have hb391 := low0 hi.1 hi390
          refine wpo_run rfl rfl rfl h240 ?_
          refine wpo_load1 (v := .int .i64 ((mAt ms ((x.th - 1).toNat)).t.ve)) ot_3 rfl ((range_low hr332 hi390) 3 _ rfl) rfl ?_
          exact wpo_nil ⟨rfl, hi390⟩
         exact yll_nil
        ·
         intro w392 hi393
         have hb394 := low0 hi.1 hi393
         refine wpo_run rfl rfl rfl h240 ?_
         refine wpo_gtr (q := decide ((mAt ms ((x.th - 1).toNat)).t.ve < x.ve)) rfl rfl rfl rfl ?_
         refine wpo_pickf (v := .bool (decide ((mAt ms ((x.th - 1).toNat)).t.ve < x.ve))) rfl h240 rfl rfl ?_
         exact wpo_nil (thn_n ⟨⟨h2, (congrArg Value.bool (by first | (simp only [h217, h240, h304, b0, b1, b2, b3, b4, b5, b6, b7, b8, b9]; done) | simp [h217, h240, h304]))⟩, hi393⟩)
      ·
       rintro f395 w396 ⟨⟨e397, e398⟩, hg399⟩
       have hb400 := low0 hi.1 hg399
       refine wpg_cond e398 (fun h401 => ?_) (fun h401 => ?_)
       ·
        refine wpg_seq_region (wd_round l) ?_
        have k402 := (hi.2.2.1.grown0 hg399)
        refine wpo_store1 (v := .bool false) (cs' := #[.bool false]) ot_4 e397 rfl rfl k402 (Nat.le_of_ble_eq_true rfl) rfl ?_
        intro w403 hS404
        have hb405 := low1 hb400 hS404.grw (by omega)
        refine wpo_nil ?_
        refine wpg_ret ?_
        refine blk_r ?_
        exact Or.inr ⟨rfl, (grown_trans (grown_weak hg399) hS404.grw), hb405, hS404.blk, nt_t ((rightTo_i h217).symm.trans h401)⟩
       ·
        have h406 := or_l h401
        have h407 := nt_f h406
        have hr408 := inR_iff.1 h407
        have h409 := or_r h401
        have h410 := of_decide_eq_false h409
        refine wpg_skip ?_
        refine blk_n ?_
        exact Or.inl ⟨rfl, hg399, nt_f ((rightTo_i h217).symm.trans h401)⟩
    ·
     rintro e a2 w2 ⟨f2, hf2, (⟨rfl, hg, hx⟩ | ⟨rfl, hg, hg0, hb, hx⟩)⟩
     ·
      exact ⟨KeepsFrom.of_grownBy hg (fun j e => by cases e), below_none hg hi.2.2.2.2, low0 hi.1 hg, hi.2.1.grown0 hg, hi.2.2.1.grown0 hg, by rw [List.all_append, hi.2.2.2.1]; simp [hx], Nat.le_trans hi.2.2.2.2 hg.size⟩
     ·
      exact ⟨KeepsFrom.of_grownBy hg (fun j e => by cases e; exact hlb2), rfl, hg0, hb, by rw [List.all_append]; simp [hx]⟩
   case done =>
    intro D xs W hD hS hi hK
    subst hS
    have hDB : D ≠ B105 := by omega
    have hDl : D < W.heap.size := (Array.getElem?_eq_some_iff.1 hK).1
    have hsb := setB_setRow hi.2.2.1 #[.bool true]
    refine wpIn_seq ?_
    refine region1_unit wd_wide (fun c h => by cases h) rfl (w' := W.setRow B105 #[.bool true]) ?_ rfl ?_
    ·
     have he : Act.eval { tmps := tm, defers := [{ target := .collected D, args := #[] }] } = ev fT := ha.eval
     rw [he]
     have hst := run_store1 (w := W) (v := .bool true) (o := 0) ot_4 rfl hi.2.2.1 (by simp)
     simp [execOp, show ev fT (.tmp 2) = _ from e2, show ev fT (.const (.bool true)) = .bool true from rfl, hst]
    ·
     refine wpIn_ret ?_
     have hK' : (W.setRow B105 #[.bool true]).heap[D]? = some (.deferred (some [])) := (hsb.grw.block D hDl (fun e => hDB (Option.some.inj e))).trans hK
     have hgp := grownBy_putObj' (W.setRow B105 #[.bool true]) D (.deferred none)
     have hb2 := hsb.blk.grown hgp (some_ne (Ne.symm hDB))
     refine endD (v := .bool true) (a := { tmps := tm, defers := [] }) ha hK' (resC rfl (resCell_mk1 ot_4 e2 (hb2.cell rfl))) ⟨?_, ?_⟩
     ·
      rw [tabi_yes h119 hall (by omega), hi.2.2.2.1]
     ·
      exact low1 (low1 hi.1 hsb.grw (by omega)) hgp (Nat.le_trans hb207.size hD)
   case stop =>
    intro D c pre W hD hSp hx hK
    obtain ⟨rfl, hg, hb, hf⟩ := hx
    have hDB : D ≠ B105 := by omega
    have hgp := grownBy_putObj' W D (.deferred none)
    have hb2 := hb.grown hgp (some_ne (Ne.symm hDB))
    refine wpIn_ret ?_
    refine endD (v := .bool false) (a := { tmps := tm, defers := [] }) ha hK (resC rfl (resCell_mk1 ot_4 e2 (hb2.cell rfl))) ⟨?_, ?_⟩
    ·
     rw [tabi_yes h119 hall (by omega), all_prefix hSp hf]
    ·
     exact low1 hg hgp (Nat.le_trans hb207.size hD)
theorem gf_34 : goFn Try.prog 34 = true := by kernel_rfl
theorem gf_36 : goFn Try.prog 36 = true := by kernel_rfl
theorem gf_83 : goFn Try.prog 83 = true := by kernel_rfl
theorem gf_86 : goFn Try.prog 86 = true := by kernel_rfl
theorem es_69 : elemSz Try.prog 69 = some 5 := by kernel_rfl
theorem fo_76_0 : fieldOff Try.prog 76 0 = some 0 := by kernel_rfl
theorem fo_76_1 : fieldOff Try.prog 76 1 = some 1 := by kernel_rfl
theorem fo_76_2 : fieldOff Try.prog 76 2 = some 2 := by kernel_rfl
theorem fo_76_3 : fieldOff Try.prog 76 3 = some 3 := by kernel_rfl
theorem fo_76_4 : fieldOff Try.prog 76 4 = some 4 := by kernel_rfl
theorem gf_108 : goFn Try.prog 108 = true := by kernel_rfl
theorem gf_109 : goFn Try.prog 109 = true := by kernel_rfl
theorem gf_110 : goFn Try.prog 110 = true := by kernel_rfl
theorem gf_116 : goFn Try.prog 116 = true := by kernel_rfl
theorem gf_91 : goFn Try.prog 91 = true := by kernel_rfl
theorem gf_93 : goFn Try.prog 93 = true := by kernel_rfl
theorem gf_94 : goFn Try.prog 94 = true := by kernel_rfl
theorem mk_69 : mkTy Try.prog 69 = some (76, 5, 40, some (.agg #[.int .i64 0, .int .i64 0, .int .i64 0, .int .i64 0, .int .i64 0])) := by kernel_rfl
theorem rt_76 : rowTy Try.prog 76 = some 5 := by kernel_rfl
theorem zt_76 : zeroTy Try.prog 76 = some (.agg #[.int .i64 0, .int .i64 0, .int .i64 0, .int .i64 0, .int .i64 0]) := by kernel_rfl
theorem CallOk_c (c : Cl) (w : World) : CallsR Try.prog 116 #[.agg #[.int .i64 c.kind, .int .i64 c.run, .int .i64 c.a, .int .i64 c.b, .int .i64 c.n]] w (fun v w' => v = .bool (callOk c) ∧ w.grownBy w' none) := by
 refine calls_of_wpf (n := 26) Try.func116 rfl Try.ntmps116 rfl ?_
 have hb0 := World.grownBy.refl w none
 refine wpf_seq_region ?_
 refine wpo_box (v := .agg #[.int .i64 c.kind, .int .i64 c.run, .int .i64 c.a, .int .i64 c.b, .int .i64 c.n]) (cs := #[.int .i64 c.kind, .int .i64 c.run, .int .i64 c.a, .int .i64 c.b, .int .i64 c.n]) rfl rfl rfl ?_
 intro B101 w102 hN103
 have hlB101 := hN_ge hN103 hb0
 have hb104 := low0 hb0 hN103.grw
 refine wpo_assign (v := .bool false) rfl rfl ?_
 refine wpo_nil ?_
 refine wpf_seq_region_mid (fun f' w' => (f' 2 = .bool ((((inR c.kind 1 9 && inR c.run 1 8) && inR c.a 0 3) && inR c.b 0 3) && inR c.n 0 99)) ∧ w102.grownBy w' none) ?_ ?_
 ·
  refine wpo_fieldAddr (o' := 0) fo_76_0 rfl rfl rfl ?_
  refine wpo_load1 (v := .int .i64 c.kind) ot_3 rfl (hN103.blk.cell rfl) rfl ?_
  refine wpo_call (vs := [.int .i64 c.kind, .int .i64 1, .int .i64 9]) gf_69 (args_cons rfl (args_cons rfl (args_cons rfl args_nil))) rfl (inRange_c c.kind 1 9 _) ?_
  rintro _ w127 ⟨rfl, hg128⟩
  have hb129 := low0 hb104 hg128
  refine wpo_move (v := .bool (inR c.kind 1 9)) rfl rfl ?_
  rcases bcases (inR c.kind 1 9) with h130 | h130
  ·
   have hr131 := inR_iff.1 h130
   refine wpo_run rfl rfl rfl h130 ?_
   refine wpo_fieldAddr (o' := 1) fo_76_1 rfl rfl rfl ?_
   refine wpo_run rfl rfl rfl h130 ?_
   have k132 := (hN103.blk.grown0 hg128)
   refine wpo_load1 (v := .int .i64 c.run) ot_3 rfl (k132.cell rfl) rfl ?_
   refine wpo_run rfl rfl rfl h130 ?_
   refine wpo_call (vs := [.int .i64 c.run, .int .i64 1, .int .i64 8]) gf_69 (args_cons rfl (args_cons rfl (args_cons rfl args_nil))) rfl (inRange_c c.run 1 8 _) ?_
   rintro _ w133 ⟨rfl, hg134⟩
   have hb135 := low0 hb129 hg134
   refine wpo_pickt (v := .bool (inR c.run 1 8)) rfl h130 rfl rfl ?_
   refine wpo_move (v := .bool (inR c.run 1 8)) rfl rfl ?_
   rcases bcases (inR c.run 1 8) with h136 | h136
   ·
    have hr137 := inR_iff.1 h136
    refine wpo_run rfl rfl rfl h136 ?_
    refine wpo_fieldAddr (o' := 2) fo_76_2 rfl rfl rfl ?_
    refine wpo_run rfl rfl rfl h136 ?_
    have k138 := (k132.grown0 hg134)
    refine wpo_load1 (v := .int .i64 c.a) ot_3 rfl (k138.cell rfl) rfl ?_
    refine wpo_run rfl rfl rfl h136 ?_
    refine wpo_call (vs := [.int .i64 c.a, .int .i64 0, .int .i64 3]) gf_69 (args_cons rfl (args_cons rfl (args_cons rfl args_nil))) rfl (inRange_c c.a 0 3 _) ?_
    rintro _ w139 ⟨rfl, hg140⟩
    have hb141 := low0 hb135 hg140
    refine wpo_pickt (v := .bool (inR c.a 0 3)) rfl h136 rfl rfl ?_
    refine wpo_move (v := .bool (inR c.a 0 3)) rfl rfl ?_
    rcases bcases (inR c.a 0 3) with h142 | h142
    ·
     have hr143 := inR_iff.1 h142
     refine wpo_run rfl rfl rfl h142 ?_
     refine wpo_fieldAddr (o' := 3) fo_76_3 rfl rfl rfl ?_
     refine wpo_run rfl rfl rfl h142 ?_
     have k144 := (k138.grown0 hg140)
     refine wpo_load1 (v := .int .i64 c.b) ot_3 rfl (k144.cell rfl) rfl ?_
     refine wpo_run rfl rfl rfl h142 ?_
     refine wpo_call (vs := [.int .i64 c.b, .int .i64 0, .int .i64 3]) gf_69 (args_cons rfl (args_cons rfl (args_cons rfl args_nil))) rfl (inRange_c c.b 0 3 _) ?_
     rintro _ w145 ⟨rfl, hg146⟩
     have hb147 := low0 hb141 hg146
     refine wpo_pickt (v := .bool (inR c.b 0 3)) rfl h142 rfl rfl ?_
     refine wpo_move (v := .bool (inR c.b 0 3)) rfl rfl ?_
     rcases bcases (inR c.b 0 3) with h148 | h148
     ·
      have hr149 := inR_iff.1 h148
      refine wpo_run rfl rfl rfl h148 ?_
      refine wpo_fieldAddr (o' := 4) fo_76_4 rfl rfl rfl ?_
      refine wpo_run rfl rfl rfl h148 ?_
      have k150 := (k144.grown0 hg146)
      refine wpo_load1 (v := .int .i64 c.n) ot_3 rfl (k150.cell rfl) rfl ?_
      refine wpo_run rfl rfl rfl h148 ?_
      refine wpo_call (vs := [.int .i64 c.n, .int .i64 0, .int .i64 99]) gf_69 (args_cons rfl (args_cons rfl (args_cons rfl args_nil))) rfl (inRange_c c.n 0 99 _) ?_
      rintro _ w151 ⟨rfl, hg152⟩
      have hb153 := low0 hb147 hg152
      refine wpo_pickt (v := .bool (inR c.n 0 99)) rfl h148 rfl rfl ?_
      refine wpo_assign (v := .bool (inR c.n 0 99)) rfl rfl ?_
      exact wpo_nil ⟨(congrArg Value.bool (by first | (simp only [h130, h136, h142, h148, b0, b1, b2, b3, b4, b5, b6, b7, b8, b9]; done) | simp [h130, h136, h142, h148])), (grown_trans (grown_trans (grown_trans (grown_trans hg128 hg134) hg140) hg146) hg152)⟩
     ·
      iterate 3 refine wpo_pass rfl rfl rfl h148 rfl ?_
      refine wpo_pickf (v := .bool false) rfl h148 rfl rfl ?_
      refine wpo_assign (v := .bool false) rfl rfl ?_
      exact wpo_nil ⟨(congrArg Value.bool (by first | (simp only [h130, h136, h142, h148, b0, b1, b2, b3, b4, b5, b6, b7, b8, b9]; done) | simp [h130, h136, h142, h148])), (grown_trans (grown_trans (grown_trans hg128 hg134) hg140) hg146)⟩
    ·
     iterate 3 refine wpo_pass rfl rfl rfl h142 rfl ?_
     refine wpo_pickf (v := .bool false) rfl h142 rfl rfl ?_
     refine wpo_move (v := .bool false) rfl rfl ?_
     iterate 3 refine wpo_pass rfl rfl rfl rfl rfl ?_
     refine wpo_pickf (v := .bool false) rfl rfl rfl rfl ?_
     refine wpo_assign (v := .bool false) rfl rfl ?_
     exact wpo_nil ⟨(congrArg Value.bool (by first | (simp only [h130, h136, h142, b0, b1, b2, b3, b4, b5, b6, b7, b8, b9]; done) | simp [h130, h136, h142])), (grown_trans (grown_trans hg128 hg134) hg140)⟩
   ·
    iterate 3 refine wpo_pass rfl rfl rfl h136 rfl ?_
    refine wpo_pickf (v := .bool false) rfl h136 rfl rfl ?_
    refine wpo_move (v := .bool false) rfl rfl ?_
    iterate 3 refine wpo_pass rfl rfl rfl rfl rfl ?_
    refine wpo_pickf (v := .bool false) rfl rfl rfl rfl ?_
    refine wpo_move (v := .bool false) rfl rfl ?_
    iterate 3 refine wpo_pass rfl rfl rfl rfl rfl ?_
    refine wpo_pickf (v := .bool false) rfl rfl rfl rfl ?_
    refine wpo_assign (v := .bool false) rfl rfl ?_
    exact wpo_nil ⟨(congrArg Value.bool (by first | (simp only [h130, h136, b0, b1, b2, b3, b4, b5, b6, b7, b8, b9]; done) | simp [h130, h136])), (grown_trans hg128 hg134)⟩
  ·
   iterate 3 refine wpo_pass rfl rfl rfl h130 rfl ?_
   refine wpo_pickf (v := .bool false) rfl h130 rfl rfl ?_
   refine wpo_move (v := .bool false) rfl rfl ?_
   iterate 3 refine wpo_pass rfl rfl rfl rfl rfl ?_
   refine wpo_pickf (v := .bool false) rfl rfl rfl rfl ?_
   refine wpo_move (v := .bool false) rfl rfl ?_
   iterate 3 refine wpo_pass rfl rfl rfl rfl rfl ?_
   refine wpo_pickf (v := .bool false) rfl rfl rfl rfl ?_
   refine wpo_move (v := .bool false) rfl rfl ?_
   iterate 3 refine wpo_pass rfl rfl rfl rfl rfl ?_
   refine wpo_pickf (v := .bool false) rfl rfl rfl rfl ?_
   refine wpo_assign (v := .bool false) rfl rfl ?_
   exact wpo_nil ⟨(congrArg Value.bool (by first | (simp only [h130, b0, b1, b2, b3, b4, b5, b6, b7, b8, b9]; done) | simp [h130])), hg128⟩
 ·
  rintro f154 w155 ⟨e156, hg157⟩
  have hb158 := low0 hb104 hg157
  refine wpf_ret ?_
  refine ⟨.bool ((((inR c.kind 1 9 && inR c.run 1 8) && inR c.a 0 3) && inR c.b 0 3) && inR c.n 0 99), res1 rfl e156, ?_, hb158⟩
  rfl
theorem sCallOk_c (c : Cl) (w : World) : CallsR Try.prog 108 #[.agg #[.int .i64 c.kind, .int .i64 c.run, .int .i64 c.a, .int .i64 c.b, .int .i64 c.n]] w (fun v w' => v = .bool (callOk c) ∧ w.grownBy w' none) := by
 refine calls_of_wpf (n := 26) Try.func108 rfl Try.ntmps108 rfl ?_
 have hb0 := World.grownBy.refl w none
 refine wpf_seq_region ?_
 refine wpo_box (v := .agg #[.int .i64 c.kind, .int .i64 c.run, .int .i64 c.a, .int .i64 c.b, .int .i64 c.n]) (cs := #[.int .i64 c.kind, .int .i64 c.run, .int .i64 c.a, .int .i64 c.b, .int .i64 c.n]) rfl rfl rfl ?_
 intro B101 w102 hN103
 have hlB101 := hN_ge hN103 hb0
 have hb104 := low0 hb0 hN103.grw
 refine wpo_assign (v := .bool false) rfl rfl ?_
 refine wpo_nil ?_
 refine wpf_seq_region_mid (fun f' w' => (f' 2 = .bool ((((inR c.kind 1 9 && inR c.run 1 8) && inR c.a 0 3) && inR c.b 0 3) && inR c.n 0 99)) ∧ w102.grownBy w' none) ?_ ?_
 ·
  refine wpo_fieldAddr (o' := 0) fo_76_0 rfl rfl rfl ?_
  refine wpo_load1 (v := .int .i64 c.kind) ot_3 rfl (hN103.blk.cell rfl) rfl ?_
  refine wpo_call (vs := [.int .i64 c.kind, .int .i64 1, .int .i64 9]) gf_85 (args_cons rfl (args_cons rfl (args_cons rfl args_nil))) rfl (l6In_c c.kind 1 9 _) ?_
  rintro _ w127 ⟨rfl, hg128⟩
  have hb129 := low0 hb104 hg128
  refine wpo_move (v := .bool (inR c.kind 1 9)) rfl rfl ?_
  rcases bcases (inR c.kind 1 9) with h130 | h130
  ·
   have hr131 := inR_iff.1 h130
   refine wpo_run rfl rfl rfl h130 ?_
   refine wpo_fieldAddr (o' := 1) fo_76_1 rfl rfl rfl ?_
   refine wpo_run rfl rfl rfl h130 ?_
   have k132 := (hN103.blk.grown0 hg128)
   refine wpo_load1 (v := .int .i64 c.run) ot_3 rfl (k132.cell rfl) rfl ?_
   refine wpo_run rfl rfl rfl h130 ?_
   refine wpo_call (vs := [.int .i64 c.run, .int .i64 1, .int .i64 8]) gf_85 (args_cons rfl (args_cons rfl (args_cons rfl args_nil))) rfl (l6In_c c.run 1 8 _) ?_
   rintro _ w133 ⟨rfl, hg134⟩
   have hb135 := low0 hb129 hg134
   refine wpo_pickt (v := .bool (inR c.run 1 8)) rfl h130 rfl rfl ?_
   refine wpo_move (v := .bool (inR c.run 1 8)) rfl rfl ?_
   rcases bcases (inR c.run 1 8) with h136 | h136
   ·
    have hr137 := inR_iff.1 h136
    refine wpo_run rfl rfl rfl h136 ?_
    refine wpo_fieldAddr (o' := 2) fo_76_2 rfl rfl rfl ?_
    refine wpo_run rfl rfl rfl h136 ?_
    have k138 := (k132.grown0 hg134)
    refine wpo_load1 (v := .int .i64 c.a) ot_3 rfl (k138.cell rfl) rfl ?_
    refine wpo_run rfl rfl rfl h136 ?_
    refine wpo_call (vs := [.int .i64 c.a, .int .i64 0, .int .i64 3]) gf_85 (args_cons rfl (args_cons rfl (args_cons rfl args_nil))) rfl (l6In_c c.a 0 3 _) ?_
    rintro _ w139 ⟨rfl, hg140⟩
    have hb141 := low0 hb135 hg140
    refine wpo_pickt (v := .bool (inR c.a 0 3)) rfl h136 rfl rfl ?_
    refine wpo_move (v := .bool (inR c.a 0 3)) rfl rfl ?_
    rcases bcases (inR c.a 0 3) with h142 | h142
    ·
     have hr143 := inR_iff.1 h142
     refine wpo_run rfl rfl rfl h142 ?_
     refine wpo_fieldAddr (o' := 3) fo_76_3 rfl rfl rfl ?_
     refine wpo_run rfl rfl rfl h142 ?_
     have k144 := (k138.grown0 hg140)
     refine wpo_load1 (v := .int .i64 c.b) ot_3 rfl (k144.cell rfl) rfl ?_
     refine wpo_run rfl rfl rfl h142 ?_
     refine wpo_call (vs := [.int .i64 c.b, .int .i64 0, .int .i64 3]) gf_85 (args_cons rfl (args_cons rfl (args_cons rfl args_nil))) rfl (l6In_c c.b 0 3 _) ?_
     rintro _ w145 ⟨rfl, hg146⟩
     have hb147 := low0 hb141 hg146
     refine wpo_pickt (v := .bool (inR c.b 0 3)) rfl h142 rfl rfl ?_
     refine wpo_move (v := .bool (inR c.b 0 3)) rfl rfl ?_
     rcases bcases (inR c.b 0 3) with h148 | h148
     ·
      have hr149 := inR_iff.1 h148
      refine wpo_run rfl rfl rfl h148 ?_
      refine wpo_fieldAddr (o' := 4) fo_76_4 rfl rfl rfl ?_
      refine wpo_run rfl rfl rfl h148 ?_
      have k150 := (k144.grown0 hg146)
      refine wpo_load1 (v := .int .i64 c.n) ot_3 rfl (k150.cell rfl) rfl ?_
      refine wpo_run rfl rfl rfl h148 ?_
      refine wpo_call (vs := [.int .i64 c.n, .int .i64 0, .int .i64 99]) gf_85 (args_cons rfl (args_cons rfl (args_cons rfl args_nil))) rfl (l6In_c c.n 0 99 _) ?_
      rintro _ w151 ⟨rfl, hg152⟩
      have hb153 := low0 hb147 hg152
      refine wpo_pickt (v := .bool (inR c.n 0 99)) rfl h148 rfl rfl ?_
      refine wpo_assign (v := .bool (inR c.n 0 99)) rfl rfl ?_
      exact wpo_nil ⟨(congrArg Value.bool (by first | (simp only [h130, h136, h142, h148, b0, b1, b2, b3, b4, b5, b6, b7, b8, b9]; done) | simp [h130, h136, h142, h148])), (grown_trans (grown_trans (grown_trans (grown_trans hg128 hg134) hg140) hg146) hg152)⟩
     ·
      iterate 3 refine wpo_pass rfl rfl rfl h148 rfl ?_
      refine wpo_pickf (v := .bool false) rfl h148 rfl rfl ?_
      refine wpo_assign (v := .bool false) rfl rfl ?_
      exact wpo_nil ⟨(congrArg Value.bool (by first | (simp only [h130, h136, h142, h148, b0, b1, b2, b3, b4, b5, b6, b7, b8, b9]; done) | simp [h130, h136, h142, h148])), (grown_trans (grown_trans (grown_trans hg128 hg134) hg140) hg146)⟩
    ·
     iterate 3 refine wpo_pass rfl rfl rfl h142 rfl ?_
     refine wpo_pickf (v := .bool false) rfl h142 rfl rfl ?_
     refine wpo_move (v := .bool false) rfl rfl ?_
     iterate 3 refine wpo_pass rfl rfl rfl rfl rfl ?_
     refine wpo_pickf (v := .bool false) rfl rfl rfl rfl ?_
     refine wpo_assign (v := .bool false) rfl rfl ?_
     exact wpo_nil ⟨(congrArg Value.bool (by first | (simp only [h130, h136, h142, b0, b1, b2, b3, b4, b5, b6, b7, b8, b9]; done) | simp [h130, h136, h142])), (grown_trans (grown_trans hg128 hg134) hg140)⟩
   ·
    iterate 3 refine wpo_pass rfl rfl rfl h136 rfl ?_
    refine wpo_pickf (v := .bool false) rfl h136 rfl rfl ?_
    refine wpo_move (v := .bool false) rfl rfl ?_
    iterate 3 refine wpo_pass rfl rfl rfl rfl rfl ?_
    refine wpo_pickf (v := .bool false) rfl rfl rfl rfl ?_
    refine wpo_move (v := .bool false) rfl rfl ?_
    iterate 3 refine wpo_pass rfl rfl rfl rfl rfl ?_
    refine wpo_pickf (v := .bool false) rfl rfl rfl rfl ?_
    refine wpo_assign (v := .bool false) rfl rfl ?_
    exact wpo_nil ⟨(congrArg Value.bool (by first | (simp only [h130, h136, b0, b1, b2, b3, b4, b5, b6, b7, b8, b9]; done) | simp [h130, h136])), (grown_trans hg128 hg134)⟩
  ·
   iterate 3 refine wpo_pass rfl rfl rfl h130 rfl ?_
   refine wpo_pickf (v := .bool false) rfl h130 rfl rfl ?_
   refine wpo_move (v := .bool false) rfl rfl ?_
   iterate 3 refine wpo_pass rfl rfl rfl rfl rfl ?_
   refine wpo_pickf (v := .bool false) rfl rfl rfl rfl ?_
   refine wpo_move (v := .bool false) rfl rfl ?_
   iterate 3 refine wpo_pass rfl rfl rfl rfl rfl ?_
   refine wpo_pickf (v := .bool false) rfl rfl rfl rfl ?_
   refine wpo_move (v := .bool false) rfl rfl ?_
   iterate 3 refine wpo_pass rfl rfl rfl rfl rfl ?_
   refine wpo_pickf (v := .bool false) rfl rfl rfl rfl ?_
   refine wpo_assign (v := .bool false) rfl rfl ?_
   exact wpo_nil ⟨(congrArg Value.bool (by first | (simp only [h130, b0, b1, b2, b3, b4, b5, b6, b7, b8, b9]; done) | simp [h130])), hg128⟩
 ·
  rintro f154 w155 ⟨e156, hg157⟩
  have hb158 := low0 hb104 hg157
  refine wpf_ret ?_
  refine ⟨.bool ((((inR c.kind 1 9 && inR c.run 1 8) && inR c.a 0 3) && inR c.b 0 3) && inR c.n 0 99), res1 rfl e156, ?_, hb158⟩
  rfl
theorem l11Run_c (k : Int) (hk : -9223372036854775807 ≤ k) (w : World) (ms : List MTh) (a : Option Addr) (c : Nat) (ht : TabAt w a ms) (hlen : TabLen ms) (hn : ms.length ≤ 1048576) : CallsR Try.prog 109 #[.slice a ms.length c, .int .i64 k] w (fun v w' => v = .bool (kindAt (tabT ms) k 3) ∧ w.grownBy w' none) := by
 refine calls_of_wpf (n := 18) Try.func109 rfl Try.ntmps109 rfl ?_
 have hb0 := World.grownBy.refl w none
 refine wpf_seq_region ?_
 refine wpo_assign (v := .bool false) rfl rfl ?_
 refine wpo_nil ?_
 refine wpf_seq_region_mid (fun f' w' => (f' 4 = .bool (inR k 1 (ms.length : Int) && (decide ((mAt ms ((k - 1).toNat)).t.kind = 3)))) ∧ w.grownBy w' none) ?_ ?_
 ·
  refine wpo_move (v := .int .i64 k) rfl rfl ?_
  refine wpo_move (v := .slice a ms.length c) rfl rfl ?_
  refine wpo_len (by kernel_rfl) rfl rfl ?_
  refine wpo_call (vs := [.int .i64 k, .int .i64 1, .int .i64 (ms.length : Int)]) gf_85 (args_cons rfl (args_cons rfl (args_cons rfl args_nil))) rfl (l6In_c k 1 (ms.length : Int) _) ?_
  rintro _ w116 ⟨rfl, hg117⟩
  have hb118 := low0 hb0 hg117
  refine wpo_move (v := .bool (inR k 1 (ms.length : Int))) rfl rfl ?_
  rcases bcases (inR k 1 (ms.length : Int)) with h119 | h119
  ·
   have hr120 := inR_iff.1 h119
   refine wpo_run rfl rfl rfl h119 ?_
   refine wpo_move (v := .slice a ms.length c) rfl rfl ?_
   refine wpo_run rfl rfl rfl h119 ?_
   refine wpo_move (v := .int .i64 k) rfl rfl ?_
   refine wpo_run rfl rfl rfl h119 ?_
   refine wpo_sub (c := k - 1) rfl rfl (by omega) (by omega) (by omega) rfl ?_
   refine wpo_run rfl rfl rfl h119 ?_
   obtain ⟨b123, q124, o125, ha126, ho127, hr128⟩ := SlAt.at (TabAt.low ht hb118).1 (map_get (mAt_get (show (k - 1).toNat < ms.length by omega)))
   have hle129 := TabLen.at hlen (mAt_get (show (k - 1).toNat < ms.length by omega))
   refine wpo_indexE es_54 rfl rfl ha126 ho127 (by omega) (by omega) rfl ?_
   refine wpo_run rfl rfl rfl h119 ?_
   refine wpo_fieldAddr (o' := o125) fo_45_0 rfl rfl rfl ?_
   refine wpo_run rfl rfl rfl h119 ?_
   refine wpo_load1 (v := .int .i64 ((mAt ms ((k - 1).toNat)).t.kind)) ot_3 rfl (hr128 0 _ rfl) rfl ?_
   refine wpo_run rfl rfl rfl h119 ?_
   refine wpo_eql (q := decide ((mAt ms ((k - 1).toNat)).t.kind = 3)) rfl rfl rfl rfl ?_
   refine wpo_pickt (v := .bool (decide ((mAt ms ((k - 1).toNat)).t.kind = 3))) rfl h119 rfl rfl ?_
   refine wpo_assign (v := .bool (decide ((mAt ms ((k - 1).toNat)).t.kind = 3))) rfl rfl ?_
   exact wpo_nil ⟨(congrArg Value.bool (by first | (simp only [h119, b0, b1, b2, b3, b4, b5, b6, b7, b8, b9]; done) | simp [h119])), hg117⟩
  ·
   iterate 7 refine wpo_pass rfl rfl rfl h119 rfl ?_
   refine wpo_pickf (v := .bool false) rfl h119 rfl rfl ?_
   refine wpo_assign (v := .bool false) rfl rfl ?_
   exact wpo_nil ⟨(congrArg Value.bool (by first | (simp only [h119, b0, b1, b2, b3, b4, b5, b6, b7, b8, b9]; done) | simp [h119])), hg117⟩
 ·
  rintro f130 w131 ⟨e132, hg133⟩
  have hb134 := low0 hb0 hg133
  refine wpf_ret ?_
  refine ⟨.bool (inR k 1 (ms.length : Int) && (decide ((mAt ms ((k - 1).toNat)).t.kind = 3))), res1 rfl e132, ?_, hb134⟩
  exact congrArg Value.bool kindAt_m
theorem callPoss_c (q : Cl) (w : World) (ms : List MTh) (a : Option Addr) (c : Nat) (ht : TabAt w a ms) (hlen : TabLen ms) (hn : ms.length ≤ 1048576) : CallsR Try.prog 110 #[.slice a ms.length c, .agg #[.int .i64 q.kind, .int .i64 q.run, .int .i64 q.a, .int .i64 q.b, .int .i64 q.n]] w (fun v w' => v = .bool (callPoss (tabT ms) q) ∧ w.grownBy w' none) := by
 refine calls_of_wpf (n := 17) Try.func110 rfl Try.ntmps110 rfl ?_
 have hb0 := World.grownBy.refl w none
 refine wpf_seq_region ?_
 refine wpo_box (v := .agg #[.int .i64 q.kind, .int .i64 q.run, .int .i64 q.a, .int .i64 q.b, .int .i64 q.n]) (cs := #[.int .i64 q.kind, .int .i64 q.run, .int .i64 q.a, .int .i64 q.b, .int .i64 q.n]) rfl rfl rfl ?_
 intro B101 w102 hN103
 have hlB101 := hN_ge hN103 hb0
 have hb104 := low0 hb0 hN103.grw
 refine wpo_assign (v := .bool false) rfl rfl ?_
 refine wpo_nil ?_
 refine wpf_seq_region_mid (fun f' w' => (f' 4 = .bool ((tableOk (tabT ms) && callOk q) && kindAt (tabT ms) q.run 3)) ∧ w102.grownBy w' none) ?_ ?_
 ·
  refine wpo_move (v := .slice a ms.length c) rfl rfl ?_
  refine wpo_call (vs := [.slice a ms.length c]) gf_83 (args_cons rfl args_nil) rfl (TableOk_c  _ ms _ _ (TabAt.low ht hb104) hlen (by omega)) ?_
  rintro _ w119 ⟨rfl, hg120⟩
  have hb121 := low0 hb104 hg120
  refine wpo_move (v := .bool (tableOk (tabT ms))) rfl rfl ?_
  rcases bcases (tableOk (tabT ms)) with h122 | h122
  ·
   refine wpo_run rfl rfl rfl h122 ?_
   have k123 := (hN103.blk.grown0 hg120)
   refine wpo_loadn (vs := [.int .i64 q.kind, .int .i64 q.run, .int .i64 q.a, .int .i64 q.b, .int .i64 q.n]) rt_76 rfl rfl (k123.rangeL 0 5 rfl) rfl ?_
   refine wpo_run rfl rfl rfl h122 ?_
   refine wpo_call (vs := [.agg #[.int .i64 q.kind, .int .i64 q.run, .int .i64 q.a, .int .i64 q.b, .int .i64 q.n]]) gf_116 (args_cons rfl args_nil) rfl (CallOk_c q _) ?_
   rintro _ w124 ⟨rfl, hg125⟩
   have hb126 := low0 hb121 hg125
   refine wpo_pickt (v := .bool (callOk q)) rfl h122 rfl rfl ?_
   refine wpo_move (v := .bool (callOk q)) rfl rfl ?_
   rcases bcases (callOk q) with h127 | h127
   ·
    have hco128 := callOk_iff h127
    refine wpo_run rfl rfl rfl h127 ?_
    refine wpo_move (v := .slice a ms.length c) rfl rfl ?_
    refine wpo_run rfl rfl rfl h127 ?_
    refine wpo_fieldAddr (o' := 1) fo_76_1 rfl rfl rfl ?_
    refine wpo_run rfl rfl rfl h127 ?_
    have k129 := (k123.grown0 hg125)
    refine wpo_load1 (v := .int .i64 q.run) ot_3 rfl (k129.cell rfl) rfl ?_
    refine wpo_run rfl rfl rfl h127 ?_
    refine wpo_call (vs := [.slice a ms.length c, .int .i64 q.run, .int .i64 3]) gf_103 (args_cons rfl (args_cons rfl (args_cons rfl args_nil))) rfl (kindAt_c q.run 3 (by omega) _ ms _ _ (TabAt.low ht hb126) hlen (by omega)) ?_
    rintro _ w130 ⟨rfl, hg131⟩
    have hb132 := low0 hb126 hg131
    refine wpo_pickt (v := .bool (kindAt (tabT ms) q.run 3)) rfl h127 rfl rfl ?_
    refine wpo_assign (v := .bool (kindAt (tabT ms) q.run 3)) rfl rfl ?_
    exact wpo_nil ⟨(congrArg Value.bool (by first | (simp only [h122, h127, b0, b1, b2, b3, b4, b5, b6, b7, b8, b9]; done) | simp [h122, h127])), (grown_trans (grown_trans hg120 hg125) hg131)⟩
   ·
    iterate 4 refine wpo_pass rfl rfl rfl h127 rfl ?_
    refine wpo_pickf (v := .bool false) rfl h127 rfl rfl ?_
    refine wpo_assign (v := .bool false) rfl rfl ?_
    exact wpo_nil ⟨(congrArg Value.bool (by first | (simp only [h122, h127, b0, b1, b2, b3, b4, b5, b6, b7, b8, b9]; done) | simp [h122, h127])), (grown_trans hg120 hg125)⟩
  ·
   refine wpo_pass rfl rfl rfl h122 rfl ?_
   refine wpo_pass rfl rfl rfl h122 rfl ?_
   refine wpo_pickf (v := .bool false) rfl h122 rfl rfl ?_
   refine wpo_move (v := .bool false) rfl rfl ?_
   iterate 4 refine wpo_pass rfl rfl rfl rfl rfl ?_
   refine wpo_pickf (v := .bool false) rfl rfl rfl rfl ?_
   refine wpo_assign (v := .bool false) rfl rfl ?_
   exact wpo_nil ⟨(congrArg Value.bool (by first | (simp only [h122, b0, b1, b2, b3, b4, b5, b6, b7, b8, b9]; done) | simp [h122])), hg120⟩
 ·
  rintro f133 w134 ⟨e135, hg136⟩
  have hb137 := low0 hb104 hg136
  refine wpf_ret ?_
  refine ⟨.bool ((tableOk (tabT ms) && callOk q) && kindAt (tabT ms) q.run 3), res1 rfl e135, ?_, hb137⟩
  rfl
theorem l21Calls_c (w : World) (ms : List MTh) (a : Option Addr) (c : Nat) (ht : TabAt w a ms) (hlen : TabLen ms) (hn : ms.length ≤ 1048576) (cs : List Cl) (b : Option Addr) (e : Nat) (hs : SlAt w b 5 (cs.map Cl.cells)) (hm : cs.length ≤ 1048576) : CallsR Try.prog 91 #[.slice a ms.length c, .slice b cs.length e] w (fun v w' => v = .bool (callsIn_ (tabT ms) cs) ∧ w.grownBy w' none) := by
 refine calls_of_wpf (n := 31) Try.func91 rfl Try.ntmps91 rfl ?_
 have hb0 := World.grownBy.refl w none
 refine wpf_seq_region ?_
 refine wpo_assign (v := .bool false) rfl rfl ?_
 refine wpo_nil ?_
 refine wpf_seq ?_
 refine wpf_seq_region ?_
 refine wpo_assign (v := .int .i64 0) rfl rfl ?_
 refine wpo_nil ?_
 refine wpf_block ?_
 refine wpf_loopN (fun mm f' w' => ∃ (k : Nat), mm = cs.length - k ∧ k ≤ cs.length ∧ ((cs.take k).all (callIn (tabT ms))) = true ∧ f' 5 = .int .i64 (k : Int) ∧ f' 0 = .slice a ms.length c ∧ f' 1 = .slice b cs.length e ∧ w.grownBy w' none) (cs.length - 0) ⟨0, rfl, (Nat.zero_le _), rfl, rfl, rfl, rfl, hb0⟩ ?_
 rintro mm f101 w102 ⟨k, hm104, hk, hall, e105, e106, e107, hb103⟩
 refine wpf_seq ?_
 refine wpf_seq_region ?_
 refine wpo_move (v := .int .i64 (k : Int)) e105 rfl ?_
 refine wpo_move (v := .slice b cs.length e) e107 rfl ?_
 refine wpo_len (by kernel_rfl) rfl rfl ?_
 refine wpo_lss (q := decide ((k : Int) < (cs.length : Int))) rfl rfl rfl rfl ?_
 refine wpo_nil ?_
 refine wpf_cond rfl (fun h108 => ?_) (fun h108 => ?_)
 ·
  have h109 := of_decide_eq_true h108
  refine wpf_skip ?_
  refine thn_n ?_
  refine wpf_seq ?_
  refine wpf_block ?_
  refine wpf_seq_region_mid (fun f' w' => (f' 0 = .slice a ms.length c ∧ f' 1 = .slice b cs.length e ∧ f' 5 = .int .i64 (k : Int) ∧ f' 27 = .bool ((!callOk (cAt cs k)) || (!kindAt (tabT ms) ((cAt cs k).run) 3))) ∧ w102.grownBy w' none) ?_ ?_
  ·
   refine wpo_move (v := .slice b cs.length e) e107 rfl ?_
   refine wpo_move (v := .int .i64 (k : Int)) e105 rfl ?_
   obtain ⟨b137, q138, o139, ha140, ho141, hr142⟩ := SlAt.at (SlAt.low hs hb103) (map_get (cAt_get (show k < cs.length by omega)))
   refine wpo_indexE es_69 rfl rfl ha140 ho141 (by omega) (by omega) rfl ?_
   refine wpo_loadn (vs := [.int .i64 ((cAt cs k).kind), .int .i64 ((cAt cs k).run), .int .i64 ((cAt cs k).a), .int .i64 ((cAt cs k).b), .int .i64 ((cAt cs k).n)]) rt_76 rfl rfl (range_sub hr142 0 5 rfl) rfl ?_
   refine wpo_call (vs := [.agg #[.int .i64 ((cAt cs k).kind), .int .i64 ((cAt cs k).run), .int .i64 ((cAt cs k).a), .int .i64 ((cAt cs k).b), .int .i64 ((cAt cs k).n)]]) gf_108 (args_cons rfl args_nil) rfl (sCallOk_c (cAt cs k) _) ?_
   rintro _ w143 ⟨rfl, hg144⟩
   have hb145 := low0 hb103 hg144
   refine wpo_not (b' := !callOk (cAt cs k)) rfl rfl rfl ?_
   refine wpo_move (v := .bool (!callOk (cAt cs k))) rfl rfl ?_
   rcases bcases (!callOk (cAt cs k)) with h146 | h146
   ·
    have h147 := nt_t h146
    iterate 8 refine wpo_pass rfl rfl rfl h146 rfl ?_
    refine wpo_pickt (v := .bool true) rfl h146 rfl rfl ?_
    exact wpo_nil ⟨⟨e106, e107, e105, (congrArg Value.bool (by first | (simp only [h108, h146, h147, b0, b1, b2, b3, b4, b5, b6, b7, b8, b9]; done) | simp [h108, h146, h147]))⟩, hg144⟩
   ·
    have h148 := nt_f h146
    have hco149 := callOk_iff h148
    refine wpo_run rfl rfl rfl h146 ?_
    refine wpo_move (v := .slice a ms.length c) e106 rfl ?_
    refine wpo_run rfl rfl rfl h146 ?_
    refine wpo_move (v := .slice b cs.length e) e107 rfl ?_
    refine wpo_run rfl rfl rfl h146 ?_
    refine wpo_move (v := .int .i64 (k : Int)) e105 rfl ?_
    refine wpo_run rfl rfl rfl h146 ?_
    refine wpo_indexE es_69 rfl rfl ha140 ho141 (by omega) (by omega) rfl ?_
    refine wpo_run rfl rfl rfl h146 ?_
    refine wpo_fieldAddr (o' := o139 + 1) fo_76_1 rfl rfl rfl ?_
    refine wpo_run rfl rfl rfl h146 ?_
    refine wpo_load1 (v := .int .i64 ((cAt cs k).run)) ot_3 rfl ((range_low hr142 hg144) 1 _ rfl) rfl ?_
    refine wpo_run rfl rfl rfl h146 ?_
    refine wpo_call (vs := [.slice a ms.length c, .int .i64 ((cAt cs k).run)]) gf_109 (args_cons rfl (args_cons rfl args_nil)) rfl (l11Run_c ((cAt cs k).run) (by omega) _ ms _ _ (TabAt.low ht hb145) hlen (by omega)) ?_
    rintro _ w150 ⟨rfl, hg151⟩
    have hb152 := low0 hb145 hg151
    refine wpo_run rfl rfl rfl h146 ?_
    refine wpo_not (b' := !kindAt (tabT ms) ((cAt cs k).run) 3) rfl rfl rfl ?_
    refine wpo_pickf (v := .bool (!kindAt (tabT ms) ((cAt cs k).run) 3)) rfl h146 rfl rfl ?_
    exact wpo_nil ⟨⟨e106, e107, e105, (congrArg Value.bool (by first | (simp only [h108, h146, h148, b0, b1, b2, b3, b4, b5, b6, b7, b8, b9]; done) | simp [h108, h146, h148]))⟩, (grown_trans hg144 hg151)⟩
  ·
   rintro f153 w154 ⟨⟨e155, e156, e157, e158⟩, hg159⟩
   have hb160 := low0 hb103 hg159
   refine wpf_cond e158 (fun h161 => ?_) (fun h161 => ?_)
   ·
    refine wpf_seq_region ?_
    refine wpo_assign (v := .bool false) rfl rfl ?_
    refine wpo_nil ?_
    refine wpf_ret ?_
    refine blk_r ?_
    refine thn_r ?_
    refine thn_r ?_
    refine blk_r ?_
    refine thn_r ?_
    refine ⟨.bool false, res1 rfl rfl, ?_, hb160⟩
    exact congrArg Value.bool (calls_no (k := k) (cAt_get (by omega)) (nt_t (callIn_s.symm.trans h161))).symm
   ·
    have h162 := or_l h161
    have h163 := nt_f h162
    have hco164 := callOk_iff h163
    have h165 := or_r h161
    have h166 := nt_f h165
    refine wpf_skip ?_
    refine blk_n ?_
    refine thn_n ?_
    refine wpf_region ?_
    refine wpo_move (v := .int .i64 (k : Int)) e157 rfl ?_
    refine wpo_add (c := (k : Int) + 1) rfl rfl (by omega) (by omega) (by omega) rfl ?_
    refine wpo_assign (v := .int .i64 ((k : Int) + 1)) rfl rfl ?_
    refine wpo_nil ?_
    refine thn_n ?_
    exact ⟨cs.length - (k + 1), by omega, (k + 1), rfl, (by omega), (take_all_succ (p := callIn (tabT ms)) hall (cAt_get (by omega)) (nt_f (callIn_s.symm.trans h161))), rfl, e155, e156, hb160⟩
 ·
  have h167 := of_decide_eq_false h108
  refine wpf_exit ?_
  refine thn_e ?_
  refine thn_e ?_
  refine blk_e ?_
  refine thn_n ?_
  refine wpf_seq_region ?_
  refine wpo_move (v := .slice b cs.length e) e107 rfl ?_
  refine wpo_len (by kernel_rfl) rfl rfl ?_
  refine wpo_leq (q := decide ((cs.length : Int) ≤ 40)) rfl rfl rfl rfl ?_
  refine wpo_assign (v := .bool (decide ((cs.length : Int) ≤ 40))) rfl rfl ?_
  refine wpo_nil ?_
  refine wpf_ret ?_
  refine ⟨.bool (decide ((cs.length : Int) ≤ 40)), res1 rfl rfl, ?_, hb103⟩
  exact congrArg Value.bool (calls_yes hall (by omega))
theorem scriptOk_c (w : World) (ms : List MTh) (a : Option Addr) (c : Nat) (ht : TabAt w a ms) (hlen : TabLen ms) (hn : ms.length ≤ 1048576) (cs : List Cl) (b : Option Addr) (e : Nat) (hs : SlAt w b 5 (cs.map Cl.cells)) (hm : cs.length ≤ 1048576) : CallsR Try.prog 93 #[.slice a ms.length c, .slice b cs.length e] w (fun v w' => v = .bool (scriptOk (tabT ms) cs) ∧ w.grownBy w' none) := by
 refine calls_of_wpf (n := 26) Try.func93 rfl Try.ntmps93 rfl ?_
 have hb0 := World.grownBy.refl w none
 refine wpf_seq_region ?_
 refine wpo_assign (v := .bool false) rfl rfl ?_
 refine wpo_nil ?_
 refine wpf_seq ?_
 refine wpf_seq_region_mid (fun f' w' => (f' 0 = .slice a ms.length c ∧ f' 1 = .slice b cs.length e ∧ f' 4 = .bool false ∧ f' 14 = .bool ((!tableOk (tabT ms)) || (decide (40 < (cs.length : Int))))) ∧ w.grownBy w' none) ?_ ?_
 ·
  refine wpo_move (v := .slice a ms.length c) rfl rfl ?_
  refine wpo_call (vs := [.slice a ms.length c]) gf_83 (args_cons rfl args_nil) rfl (TableOk_c  _ ms _ _ (TabAt.low ht hb0) hlen (by omega)) ?_
  rintro _ w107 ⟨rfl, hg108⟩
  have hb109 := low0 hb0 hg108
  refine wpo_not (b' := !tableOk (tabT ms)) rfl rfl rfl ?_
  refine wpo_move (v := .bool (!tableOk (tabT ms))) rfl rfl ?_
  rcases bcases (!tableOk (tabT ms)) with h110 | h110
  ·
   have h111 := nt_t h110
   iterate 3 refine wpo_pass rfl rfl rfl h110 rfl ?_
   refine wpo_pickt (v := .bool true) rfl h110 rfl rfl ?_
   exact wpo_nil ⟨⟨rfl, rfl, rfl, (congrArg Value.bool (by first | (simp only [h110, h111, b0, b1, b2, b3, b4, b5, b6, b7, b8, b9]; done) | simp [h110, h111]))⟩, hg108⟩
  ·
   have h112 := nt_f h110
   refine wpo_run rfl rfl rfl h110 ?_
   refine wpo_move (v := .slice b cs.length e) rfl rfl ?_
   refine wpo_run rfl rfl rfl h110 ?_
   refine wpo_len (by kernel_rfl) rfl rfl ?_
   refine wpo_run rfl rfl rfl h110 ?_
   refine wpo_gtr (q := decide (40 < (cs.length : Int))) rfl rfl rfl rfl ?_
   refine wpo_pickf (v := .bool (decide (40 < (cs.length : Int)))) rfl h110 rfl rfl ?_
   exact wpo_nil ⟨⟨rfl, rfl, rfl, (congrArg Value.bool (by first | (simp only [h110, h112, b0, b1, b2, b3, b4, b5, b6, b7, b8, b9]; done) | simp [h110, h112]))⟩, hg108⟩
 ·
  rintro f113 w114 ⟨⟨e115, e116, e117, e118⟩, hg119⟩
  have hb120 := low0 hb0 hg119
  refine wpf_cond e118 (fun h121 => ?_) (fun h121 => ?_)
  ·
   refine wpf_seq_region ?_
   refine wpo_assign (v := .bool false) rfl rfl ?_
   refine wpo_nil ?_
   refine wpf_ret ?_
   refine thn_r ?_
   refine ⟨.bool false, res1 rfl rfl, ?_, hb120⟩
   exact congrArg Value.bool (script_no1 h121).symm
  ·
   have h122 := or_l h121
   have h123 := nt_f h122
   have h124 := or_r h121
   have h125 := of_decide_eq_false h124
   refine wpf_skip ?_
   refine thn_n ?_
   refine wpf_seq ?_
   refine wpf_seq_region ?_
   refine wpo_move (v := .slice b cs.length e) e116 rfl ?_
   refine wpo_len (by kernel_rfl) rfl rfl ?_
   refine wpo_move (v := .int .i64 0) rfl rfl ?_
   refine wpo_nil ?_
   refine wpf_block ?_
   refine wpf_loopN (fun mm f' w' => ∃ (k : Nat), mm = cs.length - k ∧ k ≤ cs.length ∧ ((cs.take k).all (callPoss (tabT ms))) = true ∧ f' 17 = .int .i64 (k : Int) ∧ f' 0 = .slice a ms.length c ∧ f' 15 = .slice b cs.length e ∧ f' 16 = .int .i64 (cs.length : Int) ∧ w.grownBy w' none) (cs.length - 0) ⟨0, rfl, (Nat.zero_le _), rfl, rfl, e115, rfl, rfl, hb120⟩ ?_
   rintro mm f126 w127 ⟨k, hm129, hk, hall, e130, e131, e132, e133, hb128⟩
   refine wpf_seq_region ?_
   refine wpo_lss (q := decide ((k : Int) < (cs.length : Int))) e130 e133 rfl rfl ?_
   refine wpo_nil ?_
   refine wpf_seq ?_
   refine wpf_cond rfl (fun h134 => ?_) (fun h134 => ?_)
   ·
    have h135 := of_decide_eq_true h134
    refine wpf_skip ?_
    refine thn_n ?_
    refine wpf_seq ?_
    refine wpf_block ?_
    refine wpf_seq_region ?_
    obtain ⟨b138, q139, o140, ha141, ho142, hr143⟩ := SlAt.at (SlAt.low hs hb128) (map_get (cAt_get (show k < cs.length by omega)))
    refine wpo_indexE es_69 e132 e130 ha141 ho142 (by omega) (by omega) rfl ?_
    refine wpo_loadn (vs := [.int .i64 ((cAt cs k).kind), .int .i64 ((cAt cs k).run), .int .i64 ((cAt cs k).a), .int .i64 ((cAt cs k).b), .int .i64 ((cAt cs k).n)]) rt_76 rfl rfl (range_sub hr143 0 5 rfl) rfl ?_
    refine wpo_alloc (cs := #[.int .i64 0, .int .i64 0, .int .i64 0, .int .i64 0, .int .i64 0]) zt_76 rfl rfl ?_
    intro B144 w145 hN146
    have hlB144 := hN_ge hN146 hb128
    have hb147 := low0 hb128 hN146.grw
    refine wpo_storen (vs := [.int .i64 ((cAt cs k).kind), .int .i64 ((cAt cs k).run), .int .i64 ((cAt cs k).a), .int .i64 ((cAt cs k).b), .int .i64 ((cAt cs k).n)]) (cs' := #[.int .i64 ((cAt cs k).kind), .int .i64 ((cAt cs k).run), .int .i64 ((cAt cs k).a), .int .i64 ((cAt cs k).b), .int .i64 ((cAt cs k).n)]) rt_76 rfl rfl rfl (by simp [Value.oneCell']) hN146.blk (Nat.le_of_ble_eq_true rfl) rfl ?_
    intro w148 hS149
    have hb150 := low1 hb147 hS149.grw (by omega)
    refine wpo_nil ?_
    refine wpf_seq_region ?_
    refine wpo_move (v := .slice a ms.length c) e131 rfl ?_
    refine wpo_loadn (vs := [.int .i64 ((cAt cs k).kind), .int .i64 ((cAt cs k).run), .int .i64 ((cAt cs k).a), .int .i64 ((cAt cs k).b), .int .i64 ((cAt cs k).n)]) rt_76 rfl rfl (hS149.blk.rangeL 0 5 rfl) rfl ?_
    refine wpo_call (vs := [.slice a ms.length c, .agg #[.int .i64 ((cAt cs k).kind), .int .i64 ((cAt cs k).run), .int .i64 ((cAt cs k).a), .int .i64 ((cAt cs k).b), .int .i64 ((cAt cs k).n)]]) gf_110 (args_cons rfl (args_cons rfl args_nil)) rfl (callPoss_c (cAt cs k) _ ms _ _ (TabAt.low ht hb150) hlen (by omega)) ?_
    rintro _ w151 ⟨rfl, hg152⟩
    have hb153 := low0 hb150 hg152
    refine wpo_not (b' := !callPoss (tabT ms) (cAt cs k)) rfl rfl rfl ?_
    refine wpo_nil ?_
    refine wpf_cond rfl (fun h154 => ?_) (fun h154 => ?_)
    ·
     have h155 := nt_t h154
     refine wpf_seq_region ?_
     refine wpo_assign (v := .bool false) rfl rfl ?_
     refine wpo_nil ?_
     refine wpf_ret ?_
     refine blk_r ?_
     refine thn_r ?_
     refine thn_r ?_
     refine blk_r ?_
     refine thn_r ?_
     refine ⟨.bool false, res1 rfl rfl, ?_, hb153⟩
     exact congrArg Value.bool (script_no2 (k := k) (cAt_get (by omega)) h155).symm
    ·
     have h156 := nt_f h154
     refine wpf_skip ?_
     refine blk_n ?_
     refine thn_n ?_
     refine wpf_region ?_
     refine wpo_add (c := (k : Int) + 1) e130 rfl (by omega) (by omega) (by omega) rfl ?_
     refine wpo_move (v := .int .i64 ((k : Int) + 1)) rfl rfl ?_
     refine wpo_nil ?_
     refine thn_n ?_
     exact ⟨cs.length - (k + 1), by omega, (k + 1), rfl, (by omega), (take_all_succ (p := callPoss (tabT ms)) hall (cAt_get (by omega)) h156), rfl, e131, e132, e133, hb153⟩
   ·
    have h157 := of_decide_eq_false h134
    refine wpf_exit ?_
    refine thn_e ?_
    refine thn_e ?_
    refine blk_e ?_
    refine thn_n ?_
    refine wpf_seq_region ?_
    refine wpo_assign (v := .bool true) rfl rfl ?_
    refine wpo_nil ?_
    refine wpf_ret ?_
    refine ⟨.bool true, res1 rfl rfl, ?_, hb128⟩
    exact congrArg Value.bool (script_yes h121 hall (by omega)).symm
theorem runLow1_c (k : Int) (l : Lab) (w : World) (ms : List MTh) (a : Option Addr) (c : Nat) (ht : TabAt w a ms) (hlen : TabLen ms) (hn : ms.length ≤ 1048576) (hk : 1 ≤ k ∧ k ≤ (ms.length : Int)) : CallsR Try.prog 94 #[.slice a ms.length c, .int .i64 k, .agg #[.int .i64 l.s, .int .i64 l.v]] w (fun v w' => v = .bool (labelFlow (mAt ms (k - 1).toNat).t.lab l) ∧ w.grownBy w' none) := by
 refine calls_of_wpf (n := 15) Try.func94 rfl Try.ntmps94 rfl ?_
 have hb0 := World.grownBy.refl w none
 refine wpf_seq_region ?_
 refine wpo_box (v := .agg #[.int .i64 l.s, .int .i64 l.v]) (cs := #[.int .i64 l.s, .int .i64 l.v]) rfl rfl rfl ?_
 intro B101 w102 hN103
 have hlB101 := hN_ge hN103 hb0
 have hb104 := low0 hb0 hN103.grw
 refine wpo_assign (v := .bool false) rfl rfl ?_
 refine wpo_nil ?_
 refine wpf_seq ?_
 obtain ⟨b131, q132, o133, ha134, ho135, hr136⟩ := SlAt.at (TabAt.low ht hb104).1 (map_get (mAt_get (show (k - 1).toNat < ms.length by omega)))
 have hle137 := TabLen.at hlen (mAt_get (show (k - 1).toNat < ms.length by omega))
 refine wpf_draw (m := 7) (vals := [(7, .slice a ms.length c), (8, .int .i64 k), (9, .int .i64 (k - 1)), (10, .pointer (some ⟨b131, o133, none⟩)), (11, .pointer (some ⟨b131, o133 + 1, none⟩)), (12, .agg #[.int .i64 ((mAt ms ((k - 1).toNat)).t.lab.s), .int .i64 ((mAt ms ((k - 1).toNat)).t.lab.v)]), (13, .agg #[.int .i64 l.s, .int .i64 l.v])]) (fun w' => w102.grownBy w' none) mixed_ (by kernel_rfl) (grown_drew _) ?_ ?_
 ·
  refine yll_cons rfl (fun w141 hi142 => ?_) ?_
  ·
   have hb143 := low0 hb104 hi142
   refine wpo_move (v := .slice a ms.length c) rfl rfl ?_
   exact wpo_nil ⟨rfl, hi142⟩
  refine yll_cons rfl (fun w144 hi145 => ?_) ?_
  ·
   have hb146 := low0 hb104 hi145
   refine wpo_move (v := .int .i64 k) rfl rfl ?_
   exact wpo_nil ⟨rfl, hi145⟩
  refine yll_cons rfl (fun w147 hi148 => ?_) ?_
  ·
   have hb149 := low0 hb104 hi148
   refine wpo_sub (c := k - 1) rfl rfl (by omega) (by omega) (by omega) rfl ?_
   exact wpo_nil ⟨rfl, hi148⟩
  refine yll_cons rfl (fun w150 hi151 => ?_) ?_
  ·
   have hb152 := low0 hb104 hi151
   refine wpo_indexE es_54 rfl rfl ha134 ho135 (by omega) (by omega) rfl ?_
   exact wpo_nil ⟨rfl, hi151⟩
  refine yll_cons rfl (fun w153 hi154 => ?_) ?_
  ·
   have hb155 := low0 hb104 hi154
   refine wpo_fieldAddr (o' := o133 + 1) fo_45_1 rfl rfl rfl ?_
   exact wpo_nil ⟨rfl, hi154⟩
  refine yll_cons rfl (fun w156 hi157 => ?_) ?_
  ·
   have hb158 := low0 hb104 hi157
   refine wpo_loadn (vs := [.int .i64 ((mAt ms ((k - 1).toNat)).t.lab.s), .int .i64 ((mAt ms ((k - 1).toNat)).t.lab.v)]) rt_40 rfl rfl (range_sub (range_low hr136 hi157) 1 2 rfl) rfl ?_
   exact wpo_nil ⟨rfl, hi157⟩
  refine yll_cons rfl (fun w159 hi160 => ?_) ?_
  ·
   have hb161 := low0 hb104 hi160
   have k162 := (hN103.blk.grown0 hi160)
   refine wpo_loadn (vs := [.int .i64 l.s, .int .i64 l.v]) rt_40 rfl rfl (k162.rangeL 0 2 rfl) rfl ?_
   exact wpo_nil ⟨rfl, hi160⟩
  exact yll_nil
 ·
  intro w163 hi164
  have hb165 := low0 hb104 hi164
  refine wpo_call (vs := [.agg #[.int .i64 ((mAt ms ((k - 1).toNat)).t.lab.s), .int .i64 ((mAt ms ((k - 1).toNat)).t.lab.v)], .agg #[.int .i64 l.s, .int .i64 l.v]]) gf_36 (args_cons rfl (args_cons rfl args_nil)) rfl (LabelFlow_c ((mAt ms ((k - 1).toNat)).t.lab) l _) ?_
  rintro _ w166 ⟨rfl, hg167⟩
  have hb168 := low0 hb165 hg167
  refine wpo_assign (v := .bool (labelFlow ((mAt ms ((k - 1).toNat)).t.lab) l)) rfl rfl ?_
  refine wpo_nil ?_
  refine thn_n ?_
  refine wpf_ret ?_
  refine ⟨.bool (labelFlow ((mAt ms ((k - 1).toNat)).t.lab) l), res1 rfl rfl, ?_, hb168⟩
  rfl
theorem gf_102 : goFn Try.prog 102 = true := by kernel_rfl
theorem gf_114 : goFn Try.prog 114 = true := by kernel_rfl
theorem gf_23 : goFn Try.prog 23 = true := by kernel_rfl
theorem gf_82 : goFn Try.prog 82 = true := by kernel_rfl
theorem l71Thing_c (k to : Int) (p : Int) (hp : 0 ≤ p ∧ p ≤ 1000000000000) (lo R : Nat) (bs : List Int) (a : Option Addr) (c : Nat) (w : World) (hR : Blk w R 121 #[.slice a bs.length c, .int .i64 p]) (hlo : lo ≤ R) (hs : SlLt lo w a 1 (bs.map bcell)) (hb : ∀ b ∈ bs, 0 ≤ b ∧ b ≤ 255) (hn : bs.length ≤ 1048576) : CallsR Try.prog 114 #[.pointer (some ⟨R, 0, none⟩), .int .i64 k, .int .i64 to] w (fun v w' => ∃ (m : MTh) (p' : Int), v = .agg #[.int .i64 m.t.kind, .int .i64 m.t.lab.s, .int .i64 m.t.lab.v, .int .i64 m.t.ve, .int .i64 m.t.num, .slice m.sa m.t.slots.length m.sc, .slice m.qa m.t.queue.length m.qc, .int .i64 m.t.to] ∧ RowD 29 3 w.heap.size w' m ∧ p ≤ p' ∧ p' ≤ p + 12 ∧ Blk w' R 121 #[.slice a bs.length c, .int .i64 p'] ∧ w.grownBy w' (some R)) := by
 refine calls_of_wpf (n := 59) Try.func114 rfl Try.ntmps114 rfl ?_
 have hb0 := World.grownBy.refl w (some R)
 have hRlt := hR.lt
 refine wpf_seq_region ?_
 refine wpo_alloc (cs := #[.int .i64 0, .int .i64 0, .int .i64 0, .int .i64 0, .int .i64 0, .slice none 0 0, .slice none 0 0, .int .i64 0]) zt_45 rfl rfl ?_
 intro B101 w102 hN103
 have hlB101 := hN_ge hN103 hb0
 have lt_R_B101 := hN_gtl hN103 (hR).lt
 have hb104 := low0 hb0 hN103.grw
 refine wpo_nil ?_
 refine wpf_seq_region ?_
 refine wpo_move (v := .int .i64 k) rfl rfl ?_
 refine wpo_move (v := .pointer (some ⟨R, 0, none⟩)) rfl rfl ?_
 have k105 := (hR.grown0 hN103.grw)
 refine wpo_call (vs := [.pointer (some ⟨R, 0, none⟩)]) gf_65 (args_cons rfl args_nil) rfl (l71Label_c p (by omega) _ R bs _ _ _ k105 (by omega) (SlLt.low1 hs hb104 hlo) (by first | exact hb | exact fun b h => hb b (List.mem_of_mem_take h)) (by first | omega | (rw [List.length_take]; omega))) ?_
 rintro _ w116 ⟨l106, p107, rfl, hr108, hr109, hr110, hr111, hp112, hp113, kR114, hg115⟩
 have hb117 := grown_trans hb104 hg115
 refine wpo_move (v := .int .i64 to) rfl rfl ?_
 rcases bcases ((decide (k = 2)) || (decide (k = 3))) with h118 | h118
 ·
  rcases bcases (newOk k l106 to) with h119 | h119
  ·
   have k120 := (hN103.blk.grown hg115 (some_ne (by omega)))
   have h121 : thingOk (⟨k, l106, 0, 0, zeros4, [], to⟩ : Th) = true := (newOk_y h118).symm.trans h119
   refine wpo_call (vs := [.int .i64 k, .agg #[.int .i64 l106.s, .int .i64 l106.v], .int .i64 to]) gf_23 (args_cons rfl (args_cons rfl (args_cons rfl args_nil))) rfl (sThingNew_yt k to l106 h118 h119 _) ?_
   rintro _ w122 ⟨B124, cap125, B128, cap129, rfl, hge126, hO127, hge130, hO131, ne_B124_B128, hg123⟩
   have hb132 := low0 hb117 hg123
   have hlB124 := Nat.le_trans hb117.size hge126
   have lt_R_B124 := Nat.lt_of_lt_of_le (kR114).lt hge126
   have lt_B101_B124 := Nat.lt_of_lt_of_le (k120).lt hge126
   have hlB128 := Nat.le_trans hb117.size hge130
   have lt_R_B128 := Nat.lt_of_lt_of_le (kR114).lt hge130
   have lt_B101_B128 := Nat.lt_of_lt_of_le (k120).lt hge130
   refine wpo_move (v := .tuple #[.agg #[.int .i64 k, .int .i64 l106.s, .int .i64 l106.v, .int .i64 0, .int .i64 0, .slice (some ⟨B124, 0, none⟩) 4 cap125, .slice (some ⟨B128, 0, none⟩) 0 cap129, .int .i64 to], .bool true]) rfl rfl ?_
   refine wpo_extract (v := .agg #[.int .i64 k, .int .i64 l106.s, .int .i64 l106.v, .int .i64 0, .int .i64 0, .slice (some ⟨B124, 0, none⟩) 4 cap125, .slice (some ⟨B128, 0, none⟩) 0 cap129, .int .i64 to]) rfl rfl rfl ?_
   refine wpo_extract (v := .bool true) rfl rfl rfl ?_
   refine wpo_alloc (cs := #[.int .i64 0, .int .i64 0, .int .i64 0, .int .i64 0, .int .i64 0, .slice none 0 0, .slice none 0 0, .int .i64 0]) zt_45 rfl rfl ?_
   intro B133 w134 hN135
   have hlB133 := hN_ge hN135 hb132
   have k136 := (kR114.grown0 hg123)
   have lt_R_B133 := hN_gtl hN135 (k136).lt
   have k137 := (k120.grown0 hg123)
   have lt_B101_B133 := hN_gtl hN135 (k137).lt
   have lt_B128_B133 := hN_gtl hN135 (hO131).lt
   have lt_B124_B133 := hN_gtl hN135 (hO127).lt
   have hb138 := low0 hb132 hN135.grw
   refine wpo_storen (vs := [.int .i64 k, .int .i64 l106.s, .int .i64 l106.v, .int .i64 0, .int .i64 0, .slice (some ⟨B124, 0, none⟩) 4 cap125, .slice (some ⟨B128, 0, none⟩) 0 cap129, .int .i64 to]) (cs' := #[.int .i64 k, .int .i64 l106.s, .int .i64 l106.v, .int .i64 0, .int .i64 0, .slice (some ⟨B124, 0, none⟩) 4 cap125, .slice (some ⟨B128, 0, none⟩) 0 cap129, .int .i64 to]) rt_45 rfl rfl rfl (by simp [Value.oneCell']) hN135.blk (Nat.le_of_ble_eq_true rfl) rfl ?_
   intro w139 hS140
   have hb141 := low1 hb138 hS140.grw (by omega)
   refine wpo_assign (v := .bool true) rfl rfl ?_
   refine wpo_nil ?_
   refine wpf_seq ?_
   refine wpf_seq_region ?_
   refine wpo_fieldAddr (o' := 0) fo_45_0 rfl rfl rfl ?_
   refine wpo_load1 (v := .int .i64 k) ot_3 rfl (hS140.blk.cell rfl) rfl ?_
   refine wpo_eql (q := decide (k = 0)) rfl rfl rfl rfl ?_
   refine wpo_nil ?_
   refine wpf_cond rfl (fun h142 => ?_) (fun h142 => ?_)
   ·
    have h143 := of_decide_eq_true h142
    refine wpf_region ?_
    refine wpo_build (ps := []) (v := .agg #[.int .i64 0, .int .i64 0]) parts_nil (by kernel_rfl) rfl ?_
    have k144 := ((k136.grown0 hN135.grw).grown hS140.grw (some_ne (by omega)))
    have k145 := ((k137.grown0 hN135.grw).grown hS140.grw (some_ne (by omega)))
    have k146 := ((hO131.grown0 hN135.grw).grown hS140.grw (some_ne (by omega)))
    have k147 := ((hO127.grown0 hN135.grw).grown hS140.grw (some_ne (by omega)))
    have h148 : thingOk (⟨1, ⟨0, 0⟩, 0, 0, [], [], 0⟩ : Th) = true := (newOk_n (by decide)).symm.trans (by decide)
    refine wpo_call (vs := [.int .i64 1, .agg #[.int .i64 0, .int .i64 0], .int .i64 0]) gf_23 (args_cons rfl (args_cons rfl (args_cons rfl args_nil))) rfl (sThingNew_nt 1 0 ⟨0, 0⟩ (by decide) (by decide) _) ?_
    rintro _ w149 ⟨B151, cap152, B155, cap156, rfl, hge153, hO154, hge157, hO158, ne_B151_B155, hg150⟩
    have hb159 := low0 hb141 hg150
    have hlB151 := Nat.le_trans hb141.size hge153
    have lt_R_B151 := Nat.lt_of_lt_of_le (k144).lt hge153
    have lt_B101_B151 := Nat.lt_of_lt_of_le (k145).lt hge153
    have lt_B128_B151 := Nat.lt_of_lt_of_le (k146).lt hge153
    have lt_B124_B151 := Nat.lt_of_lt_of_le (k147).lt hge153
    have lt_B133_B151 := Nat.lt_of_lt_of_le (hS140.blk).lt hge153
    have hlB155 := Nat.le_trans hb141.size hge157
    have lt_R_B155 := Nat.lt_of_lt_of_le (k144).lt hge157
    have lt_B101_B155 := Nat.lt_of_lt_of_le (k145).lt hge157
    have lt_B128_B155 := Nat.lt_of_lt_of_le (k146).lt hge157
    have lt_B124_B155 := Nat.lt_of_lt_of_le (k147).lt hge157
    have lt_B133_B155 := Nat.lt_of_lt_of_le (hS140.blk).lt hge157
    refine wpo_move (v := .tuple #[.agg #[.int .i64 1, .int .i64 0, .int .i64 0, .int .i64 0, .int .i64 0, .slice (some ⟨B151, 0, none⟩) 0 cap152, .slice (some ⟨B155, 0, none⟩) 0 cap156, .int .i64 0], .bool true]) rfl rfl ?_
    refine wpo_extract (v := .agg #[.int .i64 1, .int .i64 0, .int .i64 0, .int .i64 0, .int .i64 0, .slice (some ⟨B151, 0, none⟩) 0 cap152, .slice (some ⟨B155, 0, none⟩) 0 cap156, .int .i64 0]) rfl rfl rfl ?_
    refine wpo_extract (v := .bool true) rfl rfl rfl ?_
    have k160 := (hS140.blk.grown0 hg150)
    refine wpo_storen (vs := [.int .i64 1, .int .i64 0, .int .i64 0, .int .i64 0, .int .i64 0, .slice (some ⟨B151, 0, none⟩) 0 cap152, .slice (some ⟨B155, 0, none⟩) 0 cap156, .int .i64 0]) (cs' := #[.int .i64 1, .int .i64 0, .int .i64 0, .int .i64 0, .int .i64 0, .slice (some ⟨B151, 0, none⟩) 0 cap152, .slice (some ⟨B155, 0, none⟩) 0 cap156, .int .i64 0]) rt_45 rfl rfl rfl (by simp [Value.oneCell']) k160 (Nat.le_of_ble_eq_true rfl) rfl ?_
    intro w161 hS162
    have hb163 := low1 hb159 hS162.grw (by omega)
    refine wpo_nil ?_
    refine thn_n ?_
    refine wpf_seq ?_
    refine wpf_seq_region ?_
    refine wpo_fieldAddr (o' := 0) fo_45_0 rfl rfl rfl ?_
    refine wpo_load1 (v := .int .i64 1) ot_3 rfl (hS162.blk.cell rfl) rfl ?_
    refine wpo_nil ?_
    refine wpf_block ?_
    refine wpf_seq_region ?_
    refine wpo_eql (q := true) rfl rfl (by decide) rfl ?_
    refine wpo_assign (v := .bool true) rfl rfl ?_
    refine wpo_nil ?_
    refine wpf_condt rfl rfl ?_
    refine wpf_seq_region ?_
    refine wpo_move (v := .pointer (some ⟨R, 0, none⟩)) rfl rfl ?_
    have k164 := ((k144.grown0 hg150).grown hS162.grw (some_ne (by omega)))
    refine wpo_call (vs := [.pointer (some ⟨R, 0, none⟩), .int .i64 20]) gf_60 (args_cons rfl (args_cons rfl args_nil)) rfl (pick_c p107 20 (by omega) _ R bs _ _ _ k164 (by omega) (SlLt.low1 hs hb163 hlo) (by first | exact hb | exact fun b h => hb b (List.mem_of_mem_take h)) (by first | omega | (rw [List.length_take]; omega))) ?_
    rintro _ w170 ⟨k165, rfl, hk166, hk167, kR168, hg169⟩
    have hb171 := grown_trans hb163 hg169
    refine wpo_fieldAddr (o' := 4) fo_45_3 rfl rfl rfl ?_
    have k172 := (hS162.blk.grown hg169 (some_ne (by omega)))
    refine wpo_store1 (v := .int .i64 k165) (cs' := #[.int .i64 1, .int .i64 0, .int .i64 0, .int .i64 0, .int .i64 k165, .slice (some ⟨B151, 0, none⟩) 0 cap152, .slice (some ⟨B155, 0, none⟩) 0 cap156, .int .i64 0]) ot_3 rfl rfl rfl k172 (Nat.le_of_ble_eq_true rfl) rfl ?_
    intro w173 hS174
    have hb175 := low1 hb171 hS174.grw (by omega)
    refine wpo_nil ?_
    refine wpf_region ?_
    refine wpo_move (v := .pointer (some ⟨R, 0, none⟩)) rfl rfl ?_
    have k176 := (kR168.grown hS174.grw (some_ne (by omega)))
    refine wpo_call (vs := [.pointer (some ⟨R, 0, none⟩), .int .i64 3]) gf_60 (args_cons rfl (args_cons rfl args_nil)) rfl (pick_c (p107 + 1) 3 (by omega) _ R bs _ _ _ k176 (by omega) (SlLt.low1 hs hb175 hlo) (by first | exact hb | exact fun b h => hb b (List.mem_of_mem_take h)) (by first | omega | (rw [List.length_take]; omega))) ?_
    rintro _ w182 ⟨k177, rfl, hk178, hk179, kR180, hg181⟩
    have hb183 := grown_trans hb175 hg181
    refine wpo_quo (c := k177 / 2) rfl rfl (by omega) (by omega) (by omega) rfl rfl ?_
    refine wpo_fieldAddr (o' := 3) fo_45_2 rfl rfl rfl ?_
    have k184 := (hS174.blk.grown hg181 (some_ne (by omega)))
    refine wpo_store1 (v := .int .i64 (k177 / 2)) (cs' := #[.int .i64 1, .int .i64 0, .int .i64 0, .int .i64 (k177 / 2), .int .i64 k165, .slice (some ⟨B151, 0, none⟩) 0 cap152, .slice (some ⟨B155, 0, none⟩) 0 cap156, .int .i64 0]) ot_3 rfl rfl rfl k184 (Nat.le_of_ble_eq_true rfl) rfl ?_
    intro w185 hS186
    have hb187 := low1 hb183 hS186.grw (by omega)
    refine wpo_nil ?_
    refine blk_n ?_
    refine thn_n ?_
    refine wpf_seq_region ?_
    refine wpo_loadn (vs := [.int .i64 1, .int .i64 0, .int .i64 0, .int .i64 (k177 / 2), .int .i64 k165, .slice (some ⟨B151, 0, none⟩) 0 cap152, .slice (some ⟨B155, 0, none⟩) 0 cap156, .int .i64 0]) rt_45 rfl rfl (hS186.blk.rangeL 0 8 rfl) rfl ?_
    have k188 := ((((((k145.grown0 hg150).grown hS162.grw (some_ne (by omega))).grown hg169 (some_ne (by omega))).grown hS174.grw (some_ne (by omega))).grown hg181 (some_ne (by omega))).grown hS186.grw (some_ne (by omega)))
    refine wpo_storen (vs := [.int .i64 1, .int .i64 0, .int .i64 0, .int .i64 (k177 / 2), .int .i64 k165, .slice (some ⟨B151, 0, none⟩) 0 cap152, .slice (some ⟨B155, 0, none⟩) 0 cap156, .int .i64 0]) (cs' := #[.int .i64 1, .int .i64 0, .int .i64 0, .int .i64 (k177 / 2), .int .i64 k165, .slice (some ⟨B151, 0, none⟩) 0 cap152, .slice (some ⟨B155, 0, none⟩) 0 cap156, .int .i64 0]) rt_45 rfl rfl rfl (by simp [Value.oneCell']) k188 (Nat.le_of_ble_eq_true rfl) rfl ?_
    intro w189 hS190
    have hb191 := low1 hb187 hS190.grw (by omega)
    refine wpo_nil ?_
    refine wpf_ret ?_
    have k192 := ((((((hO158.grown hS162.grw (some_ne (by omega))).grown hg169 (some_ne (by omega))).grown hS174.grw (some_ne (by omega))).grown hg181 (some_ne (by omega))).grown hS186.grw (some_ne (by omega))).grown hS190.grw (some_ne (by omega)))
    have k193 := ((((((hO154.grown hS162.grw (some_ne (by omega))).grown hg169 (some_ne (by omega))).grown hS174.grw (some_ne (by omega))).grown hg181 (some_ne (by omega))).grown hS186.grw (some_ne (by omega))).grown hS190.grw (some_ne (by omega)))
    have k194 := ((kR180.grown hS186.grw (some_ne (by omega))).grown hS190.grw (some_ne (by omega)))
    refine ⟨.agg #[.int .i64 1, .int .i64 0, .int .i64 0, .int .i64 (k177 / 2), .int .i64 k165, .slice (some ⟨B151, 0, none⟩) 0 cap152, .slice (some ⟨B155, 0, none⟩) 0 cap156, .int .i64 0], resC rfl (resCell_mk (vs := [.int .i64 1, .int .i64 0, .int .i64 0, .int .i64 (k177 / 2), .int .i64 k165, .slice (some ⟨B151, 0, none⟩) 0 cap152, .slice (some ⟨B155, 0, none⟩) 0 cap156, .int .i64 0]) rt_45 rfl rfl (hS190.blk.rangeL 0 8 rfl)), ⟨⟨1, ⟨0, 0⟩, k177 / 2, k165, ([] : List Rt), ([] : List Int), 0⟩, some ⟨B151, 0, none⟩, cap152, some ⟨B155, 0, none⟩, cap156⟩, (p107 + 1 + 1), rfl, ⟨OwnN.of k192 hlB155, ⟨([] : List Rt), OwnN.of k193 hlB151, rfl, ?_⟩, ?_, ?_, ⟨show (0 : Int) ≤ k177 / 2 by omega, show k177 / 2 ≤ (1 : Int) by omega⟩⟩, by omega, by omega, k194, hb191⟩
    ·
     intro x hx; first | (simp [zeros4] at hx; subst hx; exact ⟨by decide, by decide, by decide, by decide⟩) | simp at hx
    ·
     first | exact Nat.le_of_ble_eq_true rfl | omega | (simp only [List.length_nil]; omega)
    ·
     exact Nat.le_of_ble_eq_true rfl
   ·
    have h195 := of_decide_eq_false h142
    refine wpf_skip ?_
    refine thn_n ?_
    refine wpf_seq ?_
    refine wpf_seq_region ?_
    refine wpo_fieldAddr (o' := 0) fo_45_0 rfl rfl rfl ?_
    refine wpo_load1 (v := .int .i64 k) ot_3 rfl (hS140.blk.cell rfl) rfl ?_
    refine wpo_nil ?_
    refine wpf_block ?_
    refine wpf_seq_region ?_
    refine wpo_eql (q := decide (k = 1)) rfl rfl rfl rfl ?_
    refine wpo_assign (v := .bool (decide (k = 1))) rfl rfl ?_
    refine wpo_nil ?_
    refine wpf_cond rfl (fun h196 => ?_) (fun h196 => ?_)
    ·
     have h197 := of_decide_eq_true h196
     refine wpf_seq_region ?_
     refine wpo_move (v := .pointer (some ⟨R, 0, none⟩)) rfl rfl ?_
     have k198 := ((k136.grown0 hN135.grw).grown hS140.grw (some_ne (by omega)))
     refine wpo_call (vs := [.pointer (some ⟨R, 0, none⟩), .int .i64 20]) gf_60 (args_cons rfl (args_cons rfl args_nil)) rfl (pick_c p107 20 (by omega) _ R bs _ _ _ k198 (by omega) (SlLt.low1 hs hb141 hlo) (by first | exact hb | exact fun b h => hb b (List.mem_of_mem_take h)) (by first | omega | (rw [List.length_take]; omega))) ?_
     rintro _ w204 ⟨k199, rfl, hk200, hk201, kR202, hg203⟩
     have hb205 := grown_trans hb141 hg203
     refine wpo_fieldAddr (o' := 4) fo_45_3 rfl rfl rfl ?_
     have k206 := (hS140.blk.grown hg203 (some_ne (by omega)))
     refine wpo_store1 (v := .int .i64 k199) (cs' := #[.int .i64 k, .int .i64 l106.s, .int .i64 l106.v, .int .i64 0, .int .i64 k199, .slice (some ⟨B124, 0, none⟩) 4 cap125, .slice (some ⟨B128, 0, none⟩) 0 cap129, .int .i64 to]) ot_3 rfl rfl rfl k206 (Nat.le_of_ble_eq_true rfl) rfl ?_
     intro w207 hS208
     have hb209 := low1 hb205 hS208.grw (by omega)
     refine wpo_nil ?_
     refine wpf_region ?_
     refine wpo_move (v := .pointer (some ⟨R, 0, none⟩)) rfl rfl ?_
     have k210 := (kR202.grown hS208.grw (some_ne (by omega)))
     refine wpo_call (vs := [.pointer (some ⟨R, 0, none⟩), .int .i64 3]) gf_60 (args_cons rfl (args_cons rfl args_nil)) rfl (pick_c (p107 + 1) 3 (by omega) _ R bs _ _ _ k210 (by omega) (SlLt.low1 hs hb209 hlo) (by first | exact hb | exact fun b h => hb b (List.mem_of_mem_take h)) (by first | omega | (rw [List.length_take]; omega))) ?_
     rintro _ w216 ⟨k211, rfl, hk212, hk213, kR214, hg215⟩
     have hb217 := grown_trans hb209 hg215
     refine wpo_quo (c := k211 / 2) rfl rfl (by omega) (by omega) (by omega) rfl rfl ?_
     refine wpo_fieldAddr (o' := 3) fo_45_2 rfl rfl rfl ?_
     have k218 := (hS208.blk.grown hg215 (some_ne (by omega)))
     refine wpo_store1 (v := .int .i64 (k211 / 2)) (cs' := #[.int .i64 k, .int .i64 l106.s, .int .i64 l106.v, .int .i64 (k211 / 2), .int .i64 k199, .slice (some ⟨B124, 0, none⟩) 4 cap125, .slice (some ⟨B128, 0, none⟩) 0 cap129, .int .i64 to]) ot_3 rfl rfl rfl k218 (Nat.le_of_ble_eq_true rfl) rfl ?_
     intro w219 hS220
     have hb221 := low1 hb217 hS220.grw (by omega)
     refine wpo_nil ?_
     refine blk_n ?_
     refine thn_n ?_
     refine wpf_seq_region ?_
     refine wpo_loadn (vs := [.int .i64 k, .int .i64 l106.s, .int .i64 l106.v, .int .i64 (k211 / 2), .int .i64 k199, .slice (some ⟨B124, 0, none⟩) 4 cap125, .slice (some ⟨B128, 0, none⟩) 0 cap129, .int .i64 to]) rt_45 rfl rfl (hS220.blk.rangeL 0 8 rfl) rfl ?_
     have k222 := ((((((k137.grown0 hN135.grw).grown hS140.grw (some_ne (by omega))).grown hg203 (some_ne (by omega))).grown hS208.grw (some_ne (by omega))).grown hg215 (some_ne (by omega))).grown hS220.grw (some_ne (by omega)))
     refine wpo_storen (vs := [.int .i64 k, .int .i64 l106.s, .int .i64 l106.v, .int .i64 (k211 / 2), .int .i64 k199, .slice (some ⟨B124, 0, none⟩) 4 cap125, .slice (some ⟨B128, 0, none⟩) 0 cap129, .int .i64 to]) (cs' := #[.int .i64 k, .int .i64 l106.s, .int .i64 l106.v, .int .i64 (k211 / 2), .int .i64 k199, .slice (some ⟨B124, 0, none⟩) 4 cap125, .slice (some ⟨B128, 0, none⟩) 0 cap129, .int .i64 to]) rt_45 rfl rfl rfl (by simp [Value.oneCell']) k222 (Nat.le_of_ble_eq_true rfl) rfl ?_
     intro w223 hS224
     have hb225 := low1 hb221 hS224.grw (by omega)
     refine wpo_nil ?_
     refine wpf_ret ?_
     have k226 := (((((((hO131.grown0 hN135.grw).grown hS140.grw (some_ne (by omega))).grown hg203 (some_ne (by omega))).grown hS208.grw (some_ne (by omega))).grown hg215 (some_ne (by omega))).grown hS220.grw (some_ne (by omega))).grown hS224.grw (some_ne (by omega)))
     have k227 := (((((((hO127.grown0 hN135.grw).grown hS140.grw (some_ne (by omega))).grown hg203 (some_ne (by omega))).grown hS208.grw (some_ne (by omega))).grown hg215 (some_ne (by omega))).grown hS220.grw (some_ne (by omega))).grown hS224.grw (some_ne (by omega)))
     have k228 := ((kR214.grown hS220.grw (some_ne (by omega))).grown hS224.grw (some_ne (by omega)))
     refine ⟨.agg #[.int .i64 k, .int .i64 l106.s, .int .i64 l106.v, .int .i64 (k211 / 2), .int .i64 k199, .slice (some ⟨B124, 0, none⟩) 4 cap125, .slice (some ⟨B128, 0, none⟩) 0 cap129, .int .i64 to], resC rfl (resCell_mk (vs := [.int .i64 k, .int .i64 l106.s, .int .i64 l106.v, .int .i64 (k211 / 2), .int .i64 k199, .slice (some ⟨B124, 0, none⟩) 4 cap125, .slice (some ⟨B128, 0, none⟩) 0 cap129, .int .i64 to]) rt_45 rfl rfl (hS224.blk.rangeL 0 8 rfl)), ⟨⟨k, l106, k211 / 2, k199, zeros4, ([] : List Int), to⟩, some ⟨B124, 0, none⟩, cap125, some ⟨B128, 0, none⟩, cap129⟩, (p107 + 1 + 1), rfl, ⟨OwnN.of k226 hlB128, ⟨zeros4, OwnN.of k227 hlB124, rfl, ?_⟩, ?_, ?_, ⟨show (0 : Int) ≤ k211 / 2 by omega, show k211 / 2 ≤ (1 : Int) by omega⟩⟩, by omega, by omega, k228, hb225⟩
     ·
      intro x hx; first | (simp [zeros4] at hx; subst hx; exact ⟨by decide, by decide, by decide, by decide⟩) | simp at hx
     ·
      first | exact Nat.le_of_ble_eq_true rfl | omega | (simp only [List.length_nil]; omega)
     ·
      exact Nat.le_of_ble_eq_true rfl
    ·
     have h229 := of_decide_eq_false h196
     refine wpf_seq_region ?_
     refine wpo_eql (q := decide (k = 4)) rfl rfl rfl rfl ?_
     refine wpo_assign (v := .bool (decide (k = 4))) rfl rfl ?_
     refine wpo_nil ?_
     refine wpf_cond rfl (fun h230 => ?_) (fun h230 => ?_)
     ·
      have h231 := of_decide_eq_true h230
      refine wpf_seq_region ?_
      refine wpo_move (v := .pointer (some ⟨R, 0, none⟩)) rfl rfl ?_
      have k232 := ((k136.grown0 hN135.grw).grown hS140.grw (some_ne (by omega)))
      refine wpo_call (vs := [.pointer (some ⟨R, 0, none⟩), .int .i64 4]) gf_60 (args_cons rfl (args_cons rfl args_nil)) rfl (pick_c p107 4 (by omega) _ R bs _ _ _ k232 (by omega) (SlLt.low1 hs hb141 hlo) (by first | exact hb | exact fun b h => hb b (List.mem_of_mem_take h)) (by first | omega | (rw [List.length_take]; omega))) ?_
      rintro _ w238 ⟨k233, rfl, hk234, hk235, kR236, hg237⟩
      have hb239 := grown_trans hb141 hg237
      refine wpo_assign (v := .int .i64 k233) rfl rfl ?_
      refine wpo_nil ?_
      refine wpf_block ?_
      have k240 := (((hO131.grown0 hN135.grw).grown hS140.grw (some_ne (by omega))).grown hg237 (some_ne (by omega)))
      have k241 := (((k137.grown0 hN135.grw).grown hS140.grw (some_ne (by omega))).grown hg237 (some_ne (by omega)))
      have k242 := (((hO127.grown0 hN135.grw).grown hS140.grw (some_ne (by omega))).grown hg237 (some_ne (by omega)))
      have k243 := (hS140.blk.grown hg237 (some_ne (by omega)))
      refine wpf_loopN (fun mm f' w' => ∃ (n : Int) (p1 : Int) (Bq : Nat) (cq : Nat) (ys : List Int), mm = n.toNat ∧ (0 ≤ n ∧ n ≤ 3) ∧ (p107 + 1 ≤ p1 ∧ p1 ≤ (p107 + 1) + 3 - n) ∧ (ys.length : Int) ≤ 3 - n ∧ Dw.Own w' Bq 3 1 cq ys.length (ys.flatMap icell) ∧ w.heap.size ≤ Bq ∧ R ≠ Bq ∧ B101 ≠ Bq ∧ B124 ≠ Bq ∧ B133 ≠ Bq ∧ f' 9 = .int .i64 n ∧ f' 0 = .pointer (some ⟨R, 0, none⟩) ∧ f' 6 = .pointer (some ⟨B101, 0, none⟩) ∧ f' 7 = .pointer (some ⟨B133, 0, none⟩) ∧ w.grownBy w' (some R) ∧ Blk w' B101 45 #[.int .i64 0, .int .i64 0, .int .i64 0, .int .i64 0, .int .i64 0, .slice none 0 0, .slice none 0 0, .int .i64 0] ∧ Dw.Own w' B124 29 5 cap125 zeros4.length (zeros4.flatMap Rt.cells) ∧ Blk w' B133 45 #[.int .i64 k, .int .i64 l106.s, .int .i64 l106.v, .int .i64 0, .int .i64 0, .slice (some ⟨B124, 0, none⟩) 4 cap125, .slice (some ⟨Bq, 0, none⟩) ys.length cq, .int .i64 to] ∧ Blk w' R 121 #[.slice a bs.length c, .int .i64 p1]) (k233.toNat) ⟨k233, (p107 + 1), B128, cap129, ([] : List Int), rfl, (by omega), (by omega), (by simp only [List.length_nil]; omega), k240, hlB128, (by omega), (by omega), (by omega), (by omega), rfl, rfl, rfl, rfl, hb239, k241, k242, k243, kR236⟩ ?_
      rintro mm f244 w245 ⟨n, p1, Bq, cq, ys, hm247, hnn, hpp, hyl, hOwn, hlBq, hne0, hne1, hne2, hne3, e248, e249, e250, e251, hb246, k252, k253, k254, k255⟩
      refine wpf_seq ?_
      refine wpf_seq_region ?_
      refine wpo_move (v := .int .i64 n) e248 rfl ?_
      refine wpo_gtr (q := decide (0 < n)) rfl rfl rfl rfl ?_
      refine wpo_nil ?_
      refine wpf_cond rfl (fun h256 => ?_) (fun h256 => ?_)
      ·
       have h257 := of_decide_eq_true h256
       refine wpf_skip ?_
       refine thn_n ?_
       refine wpf_seq ?_
       refine wpf_block ?_
       refine wpf_drawI (m := 5) [[], [0], [], [2], [2, 3], [0, 1, 2, 3, 4], [0, 1, 2, 3, 4, 5], [0, 1, 2, 3, 4, 5, 6]] (fun S F w' => ∃ (k347 : Int) (B354 : Nat), w245.grownBy w' (some R) ∧ F 0 = .pointer (some ⟨R, 0, none⟩) ∧ F 6 = .pointer (some ⟨B101, 0, none⟩) ∧ F 7 = .pointer (some ⟨B133, 0, none⟩) ∧ F 9 = .int .i64 n ∧ (S 3 = false → Blk w' R 121 #[.slice a bs.length c, .int .i64 p1]) ∧ (S 0 = true → F 45 = .pointer (some ⟨B133, 6, none⟩)) ∧ (S 1 = true → F 46 = .slice (some ⟨Bq, 0, none⟩) ys.length cq) ∧ (S 2 = true → F 47 = .pointer (some ⟨R, 0, none⟩)) ∧ (S 3 = true → F 48 = .int .i64 k347 ∧ 0 ≤ k347 ∧ (k347 < 20 ∨ k347 = 0) ∧ Blk w' R 121 #[.slice a bs.length c, .int .i64 (p1 + 1)]) ∧ (S 4 = true → F 49 = .slice (some ⟨B354, 0, none⟩) 1 1 ∧ w.heap.size ≤ B354 ∧ Blk w' B354 3 (([k347] : List Int).flatMap icell).toArray ∧ B101 < B354 ∧ B124 < B354 ∧ B133 < B354 ∧ R < B354 ∧ Bq < B354 ∧ w245.heap.size ≤ B354)) mixed_ (by kernel_rfl) ⟨0, 0, grown_drew _, e249, e250, e251, e248, fun _ => (k255).grown0 (grown_drew _), fun h => not_begun h, fun h => not_begun h, fun h => not_begun h, fun h => not_begun h, fun h => not_begun h⟩ ?_ ?_
       ·
        refine preL_cons (fun S F w362 hS hbef hcl hI => ?_) ?_
        ·
         obtain ⟨k347, B354, hi363, e364, e365, e366, e367, c_old_R, c_0, c_1, c_2, c_3, c_4⟩ := hI
         have hb368 := grown_trans hb246 hi363
         refine wpo_fieldAddr (o' := 6) fo_45_5 e366 rfl rfl ?_
         exact wpo_nil ⟨k347, B354, hi363, e364, e365, e366, e367, fun h => c_old_R h, fun _ => rfl, fun h => undone 1 hS hcl rfl h, c_2, c_3, c_4⟩
        refine preL_cons (fun S F w369 hS hbef hcl hI => ?_) ?_
        ·
         obtain ⟨k347, B354, hi370, e371, e372, e373, e374, c_old_R, c_0, c_1, c_2, c_3, c_4⟩ := hI
         have hb375 := grown_trans hb246 hi370
         obtain e376 := c_0 (ready_of 0 hbef rfl)
         have k377 := (k254.grown hi370 (some_ne (by omega)))
         refine wpo_load1 (v := .slice (some ⟨Bq, 0, none⟩) ys.length cq) ot_43 e376 (k377.cell rfl) rfl ?_
         exact wpo_nil ⟨k347, B354, hi370, e371, e372, e373, e374, fun h => c_old_R h, c_0, fun _ => rfl, c_2, c_3, c_4⟩
        refine preL_cons (fun S F w378 hS hbef hcl hI => ?_) ?_
        ·
         obtain ⟨k347, B354, hi379, e380, e381, e382, e383, c_old_R, c_0, c_1, c_2, c_3, c_4⟩ := hI
         have hb384 := grown_trans hb246 hi379
         refine wpo_move (v := .pointer (some ⟨R, 0, none⟩)) e380 rfl ?_
         exact wpo_nil ⟨k347, B354, hi379, e380, e381, e382, e383, fun h => c_old_R h, c_0, c_1, fun _ => rfl, fun h => undone 3 hS hcl rfl h, fun h => undone 4 hS hcl rfl h⟩
        refine preL_cons (fun S F w385 hS hbef hcl hI => ?_) ?_
        ·
         obtain ⟨k347, B354, hi386, e387, e388, e389, e390, c_old_R, c_0, c_1, c_2, c_3, c_4⟩ := hI
         have hb391 := grown_trans hb246 hi386
         obtain e392 := c_2 (ready_of 2 hbef rfl)
         refine wpo_call (vs := [.pointer (some ⟨R, 0, none⟩), .int .i64 20]) gf_60 (args_cons e392 (args_cons rfl args_nil)) rfl (pick_c p1 20 (by omega) _ R bs _ _ _ (c_old_R hS) (by omega) (SlLt.low1 hs hb391 hlo) (by first | exact hb | exact fun b h => hb b (List.mem_of_mem_take h)) (by first | omega | (rw [List.length_take]; omega))) ?_
         rintro _ w398 ⟨k393, rfl, hk394, hk395, kR396, hg397⟩
         have hb399 := grown_trans hb391 hg397
         exact wpo_nil ⟨k393, B354, (grown_trans hi386 hg397), e387, e388, e389, e390, fun h => not_open h, c_0, c_1, c_2, fun _ => ⟨rfl, hk394, hk395, kR396⟩, fun h => undone 4 hS hcl rfl h⟩
        refine preL_cons (fun S F w400 hS hbef hcl hI => ?_) ?_
        ·
         obtain ⟨k347, B354, hi401, e402, e403, e404, e405, c_old_R, c_0, c_1, c_2, c_3, c_4⟩ := hI
         have hb406 := grown_trans hb246 hi401
         obtain e407 := c_2 (ready_of 2 hbef rfl)
         obtain ⟨e408, hk348, hk349, ks3_R⟩ := c_3 (ready_of 3 hbef rfl)
         refine wpo_buildSlice (ps := [(0, .int .i64 k347)]) (e := 3) (cs := (([k347] : List Int).flatMap icell).toArray) (parts_cons e408 parts_nil) (fun _ => by kernel_rfl) rfl ?_
         intro B409 w410 hN411
         have hlB409 := hN_ge hN411 hb406
         have k412 := (k252.grown hi401 (some_ne (by omega)))
         have lt_B101_B409 := hN_gtl hN411 (k412).lt
         have k413 := (k253.grown hi401 (some_ne (by omega)))
         have lt_B124_B409 := hN_gtl hN411 (k413).lt
         have k414 := (k254.grown hi401 (some_ne (by omega)))
         have lt_B133_B409 := hN_gtl hN411 (k414).lt
         have k415 := (hOwn.grown hi401 (some_ne (by omega)))
         have lt_Bq_B409 := hN_gtl hN411 (k415).lt
         have lt_R_B409 := hN_gtl hN411 (ks3_R).lt
         have hb416 := low0 hb406 hN411.grw
         exact wpo_nil ⟨k347, B409, (low0 hi401 hN411.grw), e402, e403, e404, e405, fun hn => not_open ((ready_of 3 hbef rfl).symm.trans hn), c_0, c_1, c_2, fun h => let ⟨y417, y418, y419, y420⟩ := c_3 h; ⟨y417, y418, y419, (y420).grown0 hN411.grw⟩, fun _ => ⟨rfl, hlB409, hN411.blk, lt_B101_B409, lt_B124_B409, lt_B133_B409, (by omega), lt_Bq_B409, (Nat.le_trans hi401.size (Nat.le_of_eq hN411.eq.symm))⟩⟩
        exact preL_nil
       ·
        intro S F w421 hall hI
        obtain ⟨k347, B354, hi422, e423, e424, e425, e426, c_old_R, c_0, c_1, c_2, c_3, c_4⟩ := hI
        have hb427 := grown_trans hb246 hi422
        obtain e428 := c_0 (hall 0 (by decide))
        obtain e429 := c_1 (hall 1 (by decide))
        obtain e430 := c_2 (hall 2 (by decide))
        obtain ⟨e431, hk348, hk349, ks3_R⟩ := c_3 (hall 3 (by decide))
        obtain ⟨e432, hlB354, kb_B354, lt_B101_B354, lt_B124_B354, lt_B133_B354, lt_R_B354, lt_Bq_B354, hk_B354⟩ := c_4 (hall 4 (by decide))
        have k433 := (hOwn.grown hi422 (some_ne (by omega)))
        have k434 := (k252.grown hi422 (some_ne (by omega)))
        have k435 := (k253.grown hi422 (some_ne (by omega)))
        have k436 := (k254.grown hi422 (some_ne (by omega)))
        refine wpo_append (g := icell) (ys := ys) (zs := ([k347] : List Int)) mk_43 rfl wide_int (by omega) onec_int e429 e432 k433 (rows_sl wide_int kb_B354) (by simp only [List.length_cons, List.length_nil]; omega) (by omega) rfl ?_
        intro B437 cap438 w439 hO440 hg441 hor442
        have hlB437 : w.heap.size ≤ B437 := by rcases hor442 with h | h; (rw [h]; exact hlBq); (rw [h]; exact hb427.size)
        have ne_B101_B437 : B101 ≠ B437 := by have h := (k434).lt; omega
        have ne_B124_B437 : B124 ≠ B437 := by have h := (k435).lt; omega
        have ne_B133_B437 : B133 ≠ B437 := by have h := (k436).lt; omega
        have ne_R_B437 : R ≠ B437 := by have h := (ks3_R).lt; omega
        have ne_B354_B437 : B354 ≠ B437 := by have h := (kb_B354).lt; omega
        have hb443 := low1 hb427 hg441 (by omega)
        refine wpo_fieldAddr (o' := 6) fo_45_5 e425 rfl rfl ?_
        have k444 := (k436.grown hg441 (some_ne (by omega)))
        refine wpo_store1 (v := .slice (some ⟨B437, 0, none⟩) ((ys ++ ([k347] : List Int)).length) cap438) (cs' := #[.int .i64 k, .int .i64 l106.s, .int .i64 l106.v, .int .i64 0, .int .i64 0, .slice (some ⟨B124, 0, none⟩) 4 cap125, .slice (some ⟨B437, 0, none⟩) ((ys ++ ([k347] : List Int)).length) cap438, .int .i64 to]) ot_43 rfl rfl rfl k444 (Nat.le_of_ble_eq_true rfl) rfl ?_
        intro w445 hS446
        have hb447 := low1 hb443 hS446.grw (by omega)
        refine wpo_nil ?_
        refine blk_n ?_
        refine thn_n ?_
        refine wpf_region ?_
        refine wpo_move (v := .int .i64 n) e426 rfl ?_
        refine wpo_sub (c := n - 1) rfl rfl (by omega) (by omega) (by omega) rfl ?_
        refine wpo_assign (v := .int .i64 (n - 1)) rfl rfl ?_
        refine wpo_nil ?_
        refine thn_n ?_
        have k448 := (hO440.grown hS446.grw (some_ne (by omega)))
        have k449 := ((k434.grown hg441 (some_ne (by omega))).grown hS446.grw (some_ne (by omega)))
        have k450 := ((k435.grown hg441 (some_ne (by omega))).grown hS446.grw (some_ne (by omega)))
        have k451 := ((ks3_R.grown hg441 (some_ne (by omega))).grown hS446.grw (some_ne (by omega)))
        exact ⟨(n - 1).toNat, by omega, (n - 1), (p1 + 1), B437, cap438, (ys ++ ([k347] : List Int)), rfl, (by omega), (by omega), (by simp only [List.length_append, List.length_cons, List.length_nil]; omega), k448, hlB437, (by omega), (by omega), (by omega), (by omega), rfl, e423, e424, e425, hb447, k449, k450, hS446.blk, k451⟩
      ·
       have h452 := of_decide_eq_false h256
       refine wpf_exit ?_
       refine thn_e ?_
       refine thn_e ?_
       refine blk_e ?_
       refine blk_n ?_
       refine thn_n ?_
       refine wpf_seq_region ?_
       refine wpo_loadn (vs := [.int .i64 k, .int .i64 l106.s, .int .i64 l106.v, .int .i64 0, .int .i64 0, .slice (some ⟨B124, 0, none⟩) 4 cap125, .slice (some ⟨Bq, 0, none⟩) ys.length cq, .int .i64 to]) rt_45 e251 rfl (k254.rangeL 0 8 rfl) rfl ?_
       refine wpo_storen (vs := [.int .i64 k, .int .i64 l106.s, .int .i64 l106.v, .int .i64 0, .int .i64 0, .slice (some ⟨B124, 0, none⟩) 4 cap125, .slice (some ⟨Bq, 0, none⟩) ys.length cq, .int .i64 to]) (cs' := #[.int .i64 k, .int .i64 l106.s, .int .i64 l106.v, .int .i64 0, .int .i64 0, .slice (some ⟨B124, 0, none⟩) 4 cap125, .slice (some ⟨Bq, 0, none⟩) ys.length cq, .int .i64 to]) rt_45 e250 rfl rfl (by simp [Value.oneCell']) k252 (Nat.le_of_ble_eq_true rfl) rfl ?_
       intro w453 hS454
       have hb455 := low1 hb246 hS454.grw (by omega)
       refine wpo_nil ?_
       refine wpf_ret ?_
       have k456 := (hOwn.grown hS454.grw (some_ne (by omega)))
       have k457 := (k253.grown hS454.grw (some_ne (by omega)))
       have k458 := (k255.grown hS454.grw (some_ne (by omega)))
       refine ⟨.agg #[.int .i64 k, .int .i64 l106.s, .int .i64 l106.v, .int .i64 0, .int .i64 0, .slice (some ⟨B124, 0, none⟩) 4 cap125, .slice (some ⟨Bq, 0, none⟩) ys.length cq, .int .i64 to], resC rfl (resCell_mk (vs := [.int .i64 k, .int .i64 l106.s, .int .i64 l106.v, .int .i64 0, .int .i64 0, .slice (some ⟨B124, 0, none⟩) 4 cap125, .slice (some ⟨Bq, 0, none⟩) ys.length cq, .int .i64 to]) rt_45 e250 rfl (hS454.blk.rangeL 0 8 rfl)), ⟨⟨k, l106, 0, 0, zeros4, ys, to⟩, some ⟨B124, 0, none⟩, cap125, some ⟨Bq, 0, none⟩, cq⟩, p1, rfl, ⟨OwnN.of k456 hlBq, ⟨zeros4, OwnN.of k457 hlB124, rfl, ?_⟩, ?_, ?_, ⟨show (0 : Int) ≤ 0 by omega, show 0 ≤ (1 : Int) by omega⟩⟩, by omega, by omega, k458, hb455⟩
       ·
        intro x hx; first | (simp [zeros4] at hx; subst hx; exact ⟨by decide, by decide, by decide, by decide⟩) | simp at hx
       ·
        first | exact Nat.le_of_ble_eq_true rfl | omega | (simp only [List.length_nil]; omega)
       ·
        exact Nat.le_of_ble_eq_true rfl
     ·
      have h459 := of_decide_eq_false h230
      refine wpf_seq_region ?_
      refine wpo_eql (q := decide (k = 3)) rfl rfl rfl rfl ?_
      refine wpo_assign (v := .bool (decide (k = 3))) rfl rfl ?_
      refine wpo_nil ?_
      refine wpf_cond rfl (fun h460 => ?_) (fun h460 => ?_)
      ·
       have h461 := of_decide_eq_true h460
       refine wpf_region ?_
       refine wpo_move (v := .pointer (some ⟨R, 0, none⟩)) rfl rfl ?_
       have k462 := ((k136.grown0 hN135.grw).grown hS140.grw (some_ne (by omega)))
       refine wpo_call (vs := [.pointer (some ⟨R, 0, none⟩), .int .i64 24]) gf_60 (args_cons rfl (args_cons rfl args_nil)) rfl (pick_c p107 24 (by omega) _ R bs _ _ _ k462 (by omega) (SlLt.low1 hs hb141 hlo) (by first | exact hb | exact fun b h => hb b (List.mem_of_mem_take h)) (by first | omega | (rw [List.length_take]; omega))) ?_
       rintro _ w468 ⟨k463, rfl, hk464, hk465, kR466, hg467⟩
       have hb469 := grown_trans hb141 hg467
       refine wpo_sub (c := k463 - 4) rfl rfl (by omega) (by omega) (by omega) rfl ?_
       refine wpo_fieldAddr (o' := 4) fo_45_3 rfl rfl rfl ?_
       have k470 := (hS140.blk.grown hg467 (some_ne (by omega)))
       refine wpo_store1 (v := .int .i64 (k463 - 4)) (cs' := #[.int .i64 k, .int .i64 l106.s, .int .i64 l106.v, .int .i64 0, .int .i64 (k463 - 4), .slice (some ⟨B124, 0, none⟩) 4 cap125, .slice (some ⟨B128, 0, none⟩) 0 cap129, .int .i64 to]) ot_3 rfl rfl rfl k470 (Nat.le_of_ble_eq_true rfl) rfl ?_
       intro w471 hS472
       have hb473 := low1 hb469 hS472.grw (by omega)
       refine wpo_nil ?_
       refine blk_n ?_
       refine thn_n ?_
       refine wpf_seq_region ?_
       refine wpo_loadn (vs := [.int .i64 k, .int .i64 l106.s, .int .i64 l106.v, .int .i64 0, .int .i64 (k463 - 4), .slice (some ⟨B124, 0, none⟩) 4 cap125, .slice (some ⟨B128, 0, none⟩) 0 cap129, .int .i64 to]) rt_45 rfl rfl (hS472.blk.rangeL 0 8 rfl) rfl ?_
       have k474 := ((((k137.grown0 hN135.grw).grown hS140.grw (some_ne (by omega))).grown hg467 (some_ne (by omega))).grown hS472.grw (some_ne (by omega)))
       refine wpo_storen (vs := [.int .i64 k, .int .i64 l106.s, .int .i64 l106.v, .int .i64 0, .int .i64 (k463 - 4), .slice (some ⟨B124, 0, none⟩) 4 cap125, .slice (some ⟨B128, 0, none⟩) 0 cap129, .int .i64 to]) (cs' := #[.int .i64 k, .int .i64 l106.s, .int .i64 l106.v, .int .i64 0, .int .i64 (k463 - 4), .slice (some ⟨B124, 0, none⟩) 4 cap125, .slice (some ⟨B128, 0, none⟩) 0 cap129, .int .i64 to]) rt_45 rfl rfl rfl (by simp [Value.oneCell']) k474 (Nat.le_of_ble_eq_true rfl) rfl ?_
       intro w475 hS476
       have hb477 := low1 hb473 hS476.grw (by omega)
       refine wpo_nil ?_
       refine wpf_ret ?_
       have k478 := (((((hO131.grown0 hN135.grw).grown hS140.grw (some_ne (by omega))).grown hg467 (some_ne (by omega))).grown hS472.grw (some_ne (by omega))).grown hS476.grw (some_ne (by omega)))
       have k479 := (((((hO127.grown0 hN135.grw).grown hS140.grw (some_ne (by omega))).grown hg467 (some_ne (by omega))).grown hS472.grw (some_ne (by omega))).grown hS476.grw (some_ne (by omega)))
       have k480 := ((kR466.grown hS472.grw (some_ne (by omega))).grown hS476.grw (some_ne (by omega)))
       refine ⟨.agg #[.int .i64 k, .int .i64 l106.s, .int .i64 l106.v, .int .i64 0, .int .i64 (k463 - 4), .slice (some ⟨B124, 0, none⟩) 4 cap125, .slice (some ⟨B128, 0, none⟩) 0 cap129, .int .i64 to], resC rfl (resCell_mk (vs := [.int .i64 k, .int .i64 l106.s, .int .i64 l106.v, .int .i64 0, .int .i64 (k463 - 4), .slice (some ⟨B124, 0, none⟩) 4 cap125, .slice (some ⟨B128, 0, none⟩) 0 cap129, .int .i64 to]) rt_45 rfl rfl (hS476.blk.rangeL 0 8 rfl)), ⟨⟨k, l106, 0, k463 - 4, zeros4, ([] : List Int), to⟩, some ⟨B124, 0, none⟩, cap125, some ⟨B128, 0, none⟩, cap129⟩, (p107 + 1), rfl, ⟨OwnN.of k478 hlB128, ⟨zeros4, OwnN.of k479 hlB124, rfl, ?_⟩, ?_, ?_, ⟨show (0 : Int) ≤ 0 by omega, show 0 ≤ (1 : Int) by omega⟩⟩, by omega, by omega, k480, hb477⟩
       ·
        intro x hx; first | (simp [zeros4] at hx; subst hx; exact ⟨by decide, by decide, by decide, by decide⟩) | simp at hx
       ·
        first | exact Nat.le_of_ble_eq_true rfl | omega | (simp only [List.length_nil]; omega)
       ·
        exact Nat.le_of_ble_eq_true rfl
      ·
       have h481 := of_decide_eq_false h460
       refine wpf_skip ?_
       refine blk_n ?_
       refine thn_n ?_
       refine wpf_seq_region ?_
       refine wpo_loadn (vs := [.int .i64 k, .int .i64 l106.s, .int .i64 l106.v, .int .i64 0, .int .i64 0, .slice (some ⟨B124, 0, none⟩) 4 cap125, .slice (some ⟨B128, 0, none⟩) 0 cap129, .int .i64 to]) rt_45 rfl rfl (hS140.blk.rangeL 0 8 rfl) rfl ?_
       have k482 := ((k137.grown0 hN135.grw).grown hS140.grw (some_ne (by omega)))
       refine wpo_storen (vs := [.int .i64 k, .int .i64 l106.s, .int .i64 l106.v, .int .i64 0, .int .i64 0, .slice (some ⟨B124, 0, none⟩) 4 cap125, .slice (some ⟨B128, 0, none⟩) 0 cap129, .int .i64 to]) (cs' := #[.int .i64 k, .int .i64 l106.s, .int .i64 l106.v, .int .i64 0, .int .i64 0, .slice (some ⟨B124, 0, none⟩) 4 cap125, .slice (some ⟨B128, 0, none⟩) 0 cap129, .int .i64 to]) rt_45 rfl rfl rfl (by simp [Value.oneCell']) k482 (Nat.le_of_ble_eq_true rfl) rfl ?_
       intro w483 hS484
       have hb485 := low1 hb141 hS484.grw (by omega)
       refine wpo_nil ?_
       refine wpf_ret ?_
       have k486 := (((hO131.grown0 hN135.grw).grown hS140.grw (some_ne (by omega))).grown hS484.grw (some_ne (by omega)))
       have k487 := (((hO127.grown0 hN135.grw).grown hS140.grw (some_ne (by omega))).grown hS484.grw (some_ne (by omega)))
       have k488 := (((k136.grown0 hN135.grw).grown hS140.grw (some_ne (by omega))).grown hS484.grw (some_ne (by omega)))
       refine ⟨.agg #[.int .i64 k, .int .i64 l106.s, .int .i64 l106.v, .int .i64 0, .int .i64 0, .slice (some ⟨B124, 0, none⟩) 4 cap125, .slice (some ⟨B128, 0, none⟩) 0 cap129, .int .i64 to], resC rfl (resCell_mk (vs := [.int .i64 k, .int .i64 l106.s, .int .i64 l106.v, .int .i64 0, .int .i64 0, .slice (some ⟨B124, 0, none⟩) 4 cap125, .slice (some ⟨B128, 0, none⟩) 0 cap129, .int .i64 to]) rt_45 rfl rfl (hS484.blk.rangeL 0 8 rfl)), ⟨⟨k, l106, 0, 0, zeros4, ([] : List Int), to⟩, some ⟨B124, 0, none⟩, cap125, some ⟨B128, 0, none⟩, cap129⟩, p107, rfl, ⟨OwnN.of k486 hlB128, ⟨zeros4, OwnN.of k487 hlB124, rfl, ?_⟩, ?_, ?_, ⟨show (0 : Int) ≤ 0 by omega, show 0 ≤ (1 : Int) by omega⟩⟩, by omega, by omega, k488, hb485⟩
       ·
        intro x hx; first | (simp [zeros4] at hx; subst hx; exact ⟨by decide, by decide, by decide, by decide⟩) | simp at hx
       ·
        first | exact Nat.le_of_ble_eq_true rfl | omega | (simp only [List.length_nil]; omega)
       ·
        exact Nat.le_of_ble_eq_true rfl
  ·
   have k489 := (hN103.blk.grown hg115 (some_ne (by omega)))
   have h490 : thingOk (⟨k, l106, 0, 0, zeros4, [], to⟩ : Th) = false := (newOk_y h118).symm.trans h119
   refine wpo_call (vs := [.int .i64 k, .agg #[.int .i64 l106.s, .int .i64 l106.v], .int .i64 to]) gf_23 (args_cons rfl (args_cons rfl (args_cons rfl args_nil))) rfl (sThingNew_yf k to l106 h118 h119 _) ?_
   rintro _ w491 ⟨rfl, hg492⟩
   have hb493 := low0 hb117 hg492
   refine wpo_move (v := .tuple #[.agg #[.int .i64 0, .int .i64 0, .int .i64 0, .int .i64 0, .int .i64 0, .slice none 0 0, .slice none 0 0, .int .i64 0], .bool false]) rfl rfl ?_
   refine wpo_extract (v := .agg #[.int .i64 0, .int .i64 0, .int .i64 0, .int .i64 0, .int .i64 0, .slice none 0 0, .slice none 0 0, .int .i64 0]) rfl rfl rfl ?_
   refine wpo_extract (v := .bool false) rfl rfl rfl ?_
   refine wpo_alloc (cs := #[.int .i64 0, .int .i64 0, .int .i64 0, .int .i64 0, .int .i64 0, .slice none 0 0, .slice none 0 0, .int .i64 0]) zt_45 rfl rfl ?_
   intro B494 w495 hN496
   have hlB494 := hN_ge hN496 hb493
   have k497 := (kR114.grown0 hg492)
   have lt_R_B494 := hN_gtl hN496 (k497).lt
   have k498 := (k489.grown0 hg492)
   have lt_B101_B494 := hN_gtl hN496 (k498).lt
   have hb499 := low0 hb493 hN496.grw
   refine wpo_storen (vs := [.int .i64 0, .int .i64 0, .int .i64 0, .int .i64 0, .int .i64 0, .slice none 0 0, .slice none 0 0, .int .i64 0]) (cs' := #[.int .i64 0, .int .i64 0, .int .i64 0, .int .i64 0, .int .i64 0, .slice none 0 0, .slice none 0 0, .int .i64 0]) rt_45 rfl rfl rfl (by simp [Value.oneCell']) hN496.blk (Nat.le_of_ble_eq_true rfl) rfl ?_
   intro w500 hS501
   have hb502 := low1 hb499 hS501.grw (by omega)
   refine wpo_assign (v := .bool false) rfl rfl ?_
   refine wpo_nil ?_
   refine wpf_seq ?_
   refine wpf_seq_region ?_
   refine wpo_fieldAddr (o' := 0) fo_45_0 rfl rfl rfl ?_
   refine wpo_load1 (v := .int .i64 0) ot_3 rfl (hS501.blk.cell rfl) rfl ?_
   refine wpo_eql (q := true) rfl rfl (by decide) rfl ?_
   refine wpo_nil ?_
   refine wpf_condt rfl rfl ?_
   refine wpf_region ?_
   refine wpo_build (ps := []) (v := .agg #[.int .i64 0, .int .i64 0]) parts_nil (by kernel_rfl) rfl ?_
   have k503 := ((k497.grown0 hN496.grw).grown hS501.grw (some_ne (by omega)))
   have k504 := ((k498.grown0 hN496.grw).grown hS501.grw (some_ne (by omega)))
   have h505 : thingOk (⟨1, ⟨0, 0⟩, 0, 0, [], [], 0⟩ : Th) = true := (newOk_n (by decide)).symm.trans (by decide)
   refine wpo_call (vs := [.int .i64 1, .agg #[.int .i64 0, .int .i64 0], .int .i64 0]) gf_23 (args_cons rfl (args_cons rfl (args_cons rfl args_nil))) rfl (sThingNew_nt 1 0 ⟨0, 0⟩ (by decide) (by decide) _) ?_
   rintro _ w506 ⟨B508, cap509, B512, cap513, rfl, hge510, hO511, hge514, hO515, ne_B508_B512, hg507⟩
   have hb516 := low0 hb502 hg507
   have hlB508 := Nat.le_trans hb502.size hge510
   have lt_R_B508 := Nat.lt_of_lt_of_le (k503).lt hge510
   have lt_B101_B508 := Nat.lt_of_lt_of_le (k504).lt hge510
   have lt_B494_B508 := Nat.lt_of_lt_of_le (hS501.blk).lt hge510
   have hlB512 := Nat.le_trans hb502.size hge514
   have lt_R_B512 := Nat.lt_of_lt_of_le (k503).lt hge514
   have lt_B101_B512 := Nat.lt_of_lt_of_le (k504).lt hge514
   have lt_B494_B512 := Nat.lt_of_lt_of_le (hS501.blk).lt hge514
   refine wpo_move (v := .tuple #[.agg #[.int .i64 1, .int .i64 0, .int .i64 0, .int .i64 0, .int .i64 0, .slice (some ⟨B508, 0, none⟩) 0 cap509, .slice (some ⟨B512, 0, none⟩) 0 cap513, .int .i64 0], .bool true]) rfl rfl ?_
   refine wpo_extract (v := .agg #[.int .i64 1, .int .i64 0, .int .i64 0, .int .i64 0, .int .i64 0, .slice (some ⟨B508, 0, none⟩) 0 cap509, .slice (some ⟨B512, 0, none⟩) 0 cap513, .int .i64 0]) rfl rfl rfl ?_
   refine wpo_extract (v := .bool true) rfl rfl rfl ?_
   have k517 := (hS501.blk.grown0 hg507)
   refine wpo_storen (vs := [.int .i64 1, .int .i64 0, .int .i64 0, .int .i64 0, .int .i64 0, .slice (some ⟨B508, 0, none⟩) 0 cap509, .slice (some ⟨B512, 0, none⟩) 0 cap513, .int .i64 0]) (cs' := #[.int .i64 1, .int .i64 0, .int .i64 0, .int .i64 0, .int .i64 0, .slice (some ⟨B508, 0, none⟩) 0 cap509, .slice (some ⟨B512, 0, none⟩) 0 cap513, .int .i64 0]) rt_45 rfl rfl rfl (by simp [Value.oneCell']) k517 (Nat.le_of_ble_eq_true rfl) rfl ?_
   intro w518 hS519
   have hb520 := low1 hb516 hS519.grw (by omega)
   refine wpo_nil ?_
   refine thn_n ?_
   refine wpf_seq ?_
   refine wpf_seq_region ?_
   refine wpo_fieldAddr (o' := 0) fo_45_0 rfl rfl rfl ?_
   refine wpo_load1 (v := .int .i64 1) ot_3 rfl (hS519.blk.cell rfl) rfl ?_
   refine wpo_nil ?_
   refine wpf_block ?_
   refine wpf_seq_region ?_
   refine wpo_eql (q := true) rfl rfl (by decide) rfl ?_
   refine wpo_assign (v := .bool true) rfl rfl ?_
   refine wpo_nil ?_
   refine wpf_condt rfl rfl ?_
   refine wpf_seq_region ?_
   refine wpo_move (v := .pointer (some ⟨R, 0, none⟩)) rfl rfl ?_
   have k521 := ((k503.grown0 hg507).grown hS519.grw (some_ne (by omega)))
   refine wpo_call (vs := [.pointer (some ⟨R, 0, none⟩), .int .i64 20]) gf_60 (args_cons rfl (args_cons rfl args_nil)) rfl (pick_c p107 20 (by omega) _ R bs _ _ _ k521 (by omega) (SlLt.low1 hs hb520 hlo) (by first | exact hb | exact fun b h => hb b (List.mem_of_mem_take h)) (by first | omega | (rw [List.length_take]; omega))) ?_
   rintro _ w527 ⟨k522, rfl, hk523, hk524, kR525, hg526⟩
   have hb528 := grown_trans hb520 hg526
   refine wpo_fieldAddr (o' := 4) fo_45_3 rfl rfl rfl ?_
   have k529 := (hS519.blk.grown hg526 (some_ne (by omega)))
   refine wpo_store1 (v := .int .i64 k522) (cs' := #[.int .i64 1, .int .i64 0, .int .i64 0, .int .i64 0, .int .i64 k522, .slice (some ⟨B508, 0, none⟩) 0 cap509, .slice (some ⟨B512, 0, none⟩) 0 cap513, .int .i64 0]) ot_3 rfl rfl rfl k529 (Nat.le_of_ble_eq_true rfl) rfl ?_
   intro w530 hS531
   have hb532 := low1 hb528 hS531.grw (by omega)
   refine wpo_nil ?_
   refine wpf_region ?_
   refine wpo_move (v := .pointer (some ⟨R, 0, none⟩)) rfl rfl ?_
   have k533 := (kR525.grown hS531.grw (some_ne (by omega)))
   refine wpo_call (vs := [.pointer (some ⟨R, 0, none⟩), .int .i64 3]) gf_60 (args_cons rfl (args_cons rfl args_nil)) rfl (pick_c (p107 + 1) 3 (by omega) _ R bs _ _ _ k533 (by omega) (SlLt.low1 hs hb532 hlo) (by first | exact hb | exact fun b h => hb b (List.mem_of_mem_take h)) (by first | omega | (rw [List.length_take]; omega))) ?_
   rintro _ w539 ⟨k534, rfl, hk535, hk536, kR537, hg538⟩
   have hb540 := grown_trans hb532 hg538
   refine wpo_quo (c := k534 / 2) rfl rfl (by omega) (by omega) (by omega) rfl rfl ?_
   refine wpo_fieldAddr (o' := 3) fo_45_2 rfl rfl rfl ?_
   have k541 := (hS531.blk.grown hg538 (some_ne (by omega)))
   refine wpo_store1 (v := .int .i64 (k534 / 2)) (cs' := #[.int .i64 1, .int .i64 0, .int .i64 0, .int .i64 (k534 / 2), .int .i64 k522, .slice (some ⟨B508, 0, none⟩) 0 cap509, .slice (some ⟨B512, 0, none⟩) 0 cap513, .int .i64 0]) ot_3 rfl rfl rfl k541 (Nat.le_of_ble_eq_true rfl) rfl ?_
   intro w542 hS543
   have hb544 := low1 hb540 hS543.grw (by omega)
   refine wpo_nil ?_
   refine blk_n ?_
   refine thn_n ?_
   refine wpf_seq_region ?_
   refine wpo_loadn (vs := [.int .i64 1, .int .i64 0, .int .i64 0, .int .i64 (k534 / 2), .int .i64 k522, .slice (some ⟨B508, 0, none⟩) 0 cap509, .slice (some ⟨B512, 0, none⟩) 0 cap513, .int .i64 0]) rt_45 rfl rfl (hS543.blk.rangeL 0 8 rfl) rfl ?_
   have k545 := ((((((k504.grown0 hg507).grown hS519.grw (some_ne (by omega))).grown hg526 (some_ne (by omega))).grown hS531.grw (some_ne (by omega))).grown hg538 (some_ne (by omega))).grown hS543.grw (some_ne (by omega)))
   refine wpo_storen (vs := [.int .i64 1, .int .i64 0, .int .i64 0, .int .i64 (k534 / 2), .int .i64 k522, .slice (some ⟨B508, 0, none⟩) 0 cap509, .slice (some ⟨B512, 0, none⟩) 0 cap513, .int .i64 0]) (cs' := #[.int .i64 1, .int .i64 0, .int .i64 0, .int .i64 (k534 / 2), .int .i64 k522, .slice (some ⟨B508, 0, none⟩) 0 cap509, .slice (some ⟨B512, 0, none⟩) 0 cap513, .int .i64 0]) rt_45 rfl rfl rfl (by simp [Value.oneCell']) k545 (Nat.le_of_ble_eq_true rfl) rfl ?_
   intro w546 hS547
   have hb548 := low1 hb544 hS547.grw (by omega)
   refine wpo_nil ?_
   refine wpf_ret ?_
   have k549 := ((((((hO515.grown hS519.grw (some_ne (by omega))).grown hg526 (some_ne (by omega))).grown hS531.grw (some_ne (by omega))).grown hg538 (some_ne (by omega))).grown hS543.grw (some_ne (by omega))).grown hS547.grw (some_ne (by omega)))
   have k550 := ((((((hO511.grown hS519.grw (some_ne (by omega))).grown hg526 (some_ne (by omega))).grown hS531.grw (some_ne (by omega))).grown hg538 (some_ne (by omega))).grown hS543.grw (some_ne (by omega))).grown hS547.grw (some_ne (by omega)))
   have k551 := ((kR537.grown hS543.grw (some_ne (by omega))).grown hS547.grw (some_ne (by omega)))
   refine ⟨.agg #[.int .i64 1, .int .i64 0, .int .i64 0, .int .i64 (k534 / 2), .int .i64 k522, .slice (some ⟨B508, 0, none⟩) 0 cap509, .slice (some ⟨B512, 0, none⟩) 0 cap513, .int .i64 0], resC rfl (resCell_mk (vs := [.int .i64 1, .int .i64 0, .int .i64 0, .int .i64 (k534 / 2), .int .i64 k522, .slice (some ⟨B508, 0, none⟩) 0 cap509, .slice (some ⟨B512, 0, none⟩) 0 cap513, .int .i64 0]) rt_45 rfl rfl (hS547.blk.rangeL 0 8 rfl)), ⟨⟨1, ⟨0, 0⟩, k534 / 2, k522, ([] : List Rt), ([] : List Int), 0⟩, some ⟨B508, 0, none⟩, cap509, some ⟨B512, 0, none⟩, cap513⟩, (p107 + 1 + 1), rfl, ⟨OwnN.of k549 hlB512, ⟨([] : List Rt), OwnN.of k550 hlB508, rfl, ?_⟩, ?_, ?_, ⟨show (0 : Int) ≤ k534 / 2 by omega, show k534 / 2 ≤ (1 : Int) by omega⟩⟩, by omega, by omega, k551, hb548⟩
   ·
    intro x hx; first | (simp [zeros4] at hx; subst hx; exact ⟨by decide, by decide, by decide, by decide⟩) | simp at hx
   ·
    first | exact Nat.le_of_ble_eq_true rfl | omega | (simp only [List.length_nil]; omega)
   ·
    exact Nat.le_of_ble_eq_true rfl
 ·
  have h552 := or_l h118
  have h553 := of_decide_eq_false h552
  have h554 := or_r h118
  have h555 := of_decide_eq_false h554
  rcases bcases (newOk k l106 to) with h556 | h556
  ·
   have k557 := (hN103.blk.grown hg115 (some_ne (by omega)))
   have h558 : thingOk (⟨k, l106, 0, 0, [], [], to⟩ : Th) = true := (newOk_n h118).symm.trans h556
   refine wpo_call (vs := [.int .i64 k, .agg #[.int .i64 l106.s, .int .i64 l106.v], .int .i64 to]) gf_23 (args_cons rfl (args_cons rfl (args_cons rfl args_nil))) rfl (sThingNew_nt k to l106 h118 h556 _) ?_
   rintro _ w559 ⟨B561, cap562, B565, cap566, rfl, hge563, hO564, hge567, hO568, ne_B561_B565, hg560⟩
   have hb569 := low0 hb117 hg560
   have hlB561 := Nat.le_trans hb117.size hge563
   have lt_R_B561 := Nat.lt_of_lt_of_le (kR114).lt hge563
   have lt_B101_B561 := Nat.lt_of_lt_of_le (k557).lt hge563
   have hlB565 := Nat.le_trans hb117.size hge567
   have lt_R_B565 := Nat.lt_of_lt_of_le (kR114).lt hge567
   have lt_B101_B565 := Nat.lt_of_lt_of_le (k557).lt hge567
   refine wpo_move (v := .tuple #[.agg #[.int .i64 k, .int .i64 l106.s, .int .i64 l106.v, .int .i64 0, .int .i64 0, .slice (some ⟨B561, 0, none⟩) 0 cap562, .slice (some ⟨B565, 0, none⟩) 0 cap566, .int .i64 to], .bool true]) rfl rfl ?_
   refine wpo_extract (v := .agg #[.int .i64 k, .int .i64 l106.s, .int .i64 l106.v, .int .i64 0, .int .i64 0, .slice (some ⟨B561, 0, none⟩) 0 cap562, .slice (some ⟨B565, 0, none⟩) 0 cap566, .int .i64 to]) rfl rfl rfl ?_
   refine wpo_extract (v := .bool true) rfl rfl rfl ?_
   refine wpo_alloc (cs := #[.int .i64 0, .int .i64 0, .int .i64 0, .int .i64 0, .int .i64 0, .slice none 0 0, .slice none 0 0, .int .i64 0]) zt_45 rfl rfl ?_
   intro B570 w571 hN572
   have hlB570 := hN_ge hN572 hb569
   have k573 := (kR114.grown0 hg560)
   have lt_R_B570 := hN_gtl hN572 (k573).lt
   have k574 := (k557.grown0 hg560)
   have lt_B101_B570 := hN_gtl hN572 (k574).lt
   have lt_B565_B570 := hN_gtl hN572 (hO568).lt
   have lt_B561_B570 := hN_gtl hN572 (hO564).lt
   have hb575 := low0 hb569 hN572.grw
   refine wpo_storen (vs := [.int .i64 k, .int .i64 l106.s, .int .i64 l106.v, .int .i64 0, .int .i64 0, .slice (some ⟨B561, 0, none⟩) 0 cap562, .slice (some ⟨B565, 0, none⟩) 0 cap566, .int .i64 to]) (cs' := #[.int .i64 k, .int .i64 l106.s, .int .i64 l106.v, .int .i64 0, .int .i64 0, .slice (some ⟨B561, 0, none⟩) 0 cap562, .slice (some ⟨B565, 0, none⟩) 0 cap566, .int .i64 to]) rt_45 rfl rfl rfl (by simp [Value.oneCell']) hN572.blk (Nat.le_of_ble_eq_true rfl) rfl ?_
   intro w576 hS577
   have hb578 := low1 hb575 hS577.grw (by omega)
   refine wpo_assign (v := .bool true) rfl rfl ?_
   refine wpo_nil ?_
   refine wpf_seq ?_
   refine wpf_seq_region ?_
   refine wpo_fieldAddr (o' := 0) fo_45_0 rfl rfl rfl ?_
   refine wpo_load1 (v := .int .i64 k) ot_3 rfl (hS577.blk.cell rfl) rfl ?_
   refine wpo_eql (q := decide (k = 0)) rfl rfl rfl rfl ?_
   refine wpo_nil ?_
   refine wpf_cond rfl (fun h579 => ?_) (fun h579 => ?_)
   ·
    have h580 := of_decide_eq_true h579
    refine wpf_region ?_
    refine wpo_build (ps := []) (v := .agg #[.int .i64 0, .int .i64 0]) parts_nil (by kernel_rfl) rfl ?_
    have k581 := ((k573.grown0 hN572.grw).grown hS577.grw (some_ne (by omega)))
    have k582 := ((k574.grown0 hN572.grw).grown hS577.grw (some_ne (by omega)))
    have k583 := ((hO568.grown0 hN572.grw).grown hS577.grw (some_ne (by omega)))
    have k584 := ((hO564.grown0 hN572.grw).grown hS577.grw (some_ne (by omega)))
    have h585 : thingOk (⟨1, ⟨0, 0⟩, 0, 0, [], [], 0⟩ : Th) = true := (newOk_n (by decide)).symm.trans (by decide)
    refine wpo_call (vs := [.int .i64 1, .agg #[.int .i64 0, .int .i64 0], .int .i64 0]) gf_23 (args_cons rfl (args_cons rfl (args_cons rfl args_nil))) rfl (sThingNew_nt 1 0 ⟨0, 0⟩ (by decide) (by decide) _) ?_
    rintro _ w586 ⟨B588, cap589, B592, cap593, rfl, hge590, hO591, hge594, hO595, ne_B588_B592, hg587⟩
    have hb596 := low0 hb578 hg587
    have hlB588 := Nat.le_trans hb578.size hge590
    have lt_R_B588 := Nat.lt_of_lt_of_le (k581).lt hge590
    have lt_B101_B588 := Nat.lt_of_lt_of_le (k582).lt hge590
    have lt_B565_B588 := Nat.lt_of_lt_of_le (k583).lt hge590
    have lt_B561_B588 := Nat.lt_of_lt_of_le (k584).lt hge590
    have lt_B570_B588 := Nat.lt_of_lt_of_le (hS577.blk).lt hge590
    have hlB592 := Nat.le_trans hb578.size hge594
    have lt_R_B592 := Nat.lt_of_lt_of_le (k581).lt hge594
    have lt_B101_B592 := Nat.lt_of_lt_of_le (k582).lt hge594
    have lt_B565_B592 := Nat.lt_of_lt_of_le (k583).lt hge594
    have lt_B561_B592 := Nat.lt_of_lt_of_le (k584).lt hge594
    have lt_B570_B592 := Nat.lt_of_lt_of_le (hS577.blk).lt hge594
    refine wpo_move (v := .tuple #[.agg #[.int .i64 1, .int .i64 0, .int .i64 0, .int .i64 0, .int .i64 0, .slice (some ⟨B588, 0, none⟩) 0 cap589, .slice (some ⟨B592, 0, none⟩) 0 cap593, .int .i64 0], .bool true]) rfl rfl ?_
    refine wpo_extract (v := .agg #[.int .i64 1, .int .i64 0, .int .i64 0, .int .i64 0, .int .i64 0, .slice (some ⟨B588, 0, none⟩) 0 cap589, .slice (some ⟨B592, 0, none⟩) 0 cap593, .int .i64 0]) rfl rfl rfl ?_
    refine wpo_extract (v := .bool true) rfl rfl rfl ?_
    have k597 := (hS577.blk.grown0 hg587)
    refine wpo_storen (vs := [.int .i64 1, .int .i64 0, .int .i64 0, .int .i64 0, .int .i64 0, .slice (some ⟨B588, 0, none⟩) 0 cap589, .slice (some ⟨B592, 0, none⟩) 0 cap593, .int .i64 0]) (cs' := #[.int .i64 1, .int .i64 0, .int .i64 0, .int .i64 0, .int .i64 0, .slice (some ⟨B588, 0, none⟩) 0 cap589, .slice (some ⟨B592, 0, none⟩) 0 cap593, .int .i64 0]) rt_45 rfl rfl rfl (by simp [Value.oneCell']) k597 (Nat.le_of_ble_eq_true rfl) rfl ?_
    intro w598 hS599
    have hb600 := low1 hb596 hS599.grw (by omega)
    refine wpo_nil ?_
    refine thn_n ?_
    refine wpf_seq ?_
    refine wpf_seq_region ?_
    refine wpo_fieldAddr (o' := 0) fo_45_0 rfl rfl rfl ?_
    refine wpo_load1 (v := .int .i64 1) ot_3 rfl (hS599.blk.cell rfl) rfl ?_
    refine wpo_nil ?_
    refine wpf_block ?_
    refine wpf_seq_region ?_
    refine wpo_eql (q := true) rfl rfl (by decide) rfl ?_
    refine wpo_assign (v := .bool true) rfl rfl ?_
    refine wpo_nil ?_
    refine wpf_condt rfl rfl ?_
    refine wpf_seq_region ?_
    refine wpo_move (v := .pointer (some ⟨R, 0, none⟩)) rfl rfl ?_
    have k601 := ((k581.grown0 hg587).grown hS599.grw (some_ne (by omega)))
    refine wpo_call (vs := [.pointer (some ⟨R, 0, none⟩), .int .i64 20]) gf_60 (args_cons rfl (args_cons rfl args_nil)) rfl (pick_c p107 20 (by omega) _ R bs _ _ _ k601 (by omega) (SlLt.low1 hs hb600 hlo) (by first | exact hb | exact fun b h => hb b (List.mem_of_mem_take h)) (by first | omega | (rw [List.length_take]; omega))) ?_
    rintro _ w607 ⟨k602, rfl, hk603, hk604, kR605, hg606⟩
    have hb608 := grown_trans hb600 hg606
    refine wpo_fieldAddr (o' := 4) fo_45_3 rfl rfl rfl ?_
    have k609 := (hS599.blk.grown hg606 (some_ne (by omega)))
    refine wpo_store1 (v := .int .i64 k602) (cs' := #[.int .i64 1, .int .i64 0, .int .i64 0, .int .i64 0, .int .i64 k602, .slice (some ⟨B588, 0, none⟩) 0 cap589, .slice (some ⟨B592, 0, none⟩) 0 cap593, .int .i64 0]) ot_3 rfl rfl rfl k609 (Nat.le_of_ble_eq_true rfl) rfl ?_
    intro w610 hS611
    have hb612 := low1 hb608 hS611.grw (by omega)
    refine wpo_nil ?_
    refine wpf_region ?_
    refine wpo_move (v := .pointer (some ⟨R, 0, none⟩)) rfl rfl ?_
    have k613 := (kR605.grown hS611.grw (some_ne (by omega)))
    refine wpo_call (vs := [.pointer (some ⟨R, 0, none⟩), .int .i64 3]) gf_60 (args_cons rfl (args_cons rfl args_nil)) rfl (pick_c (p107 + 1) 3 (by omega) _ R bs _ _ _ k613 (by omega) (SlLt.low1 hs hb612 hlo) (by first | exact hb | exact fun b h => hb b (List.mem_of_mem_take h)) (by first | omega | (rw [List.length_take]; omega))) ?_
    rintro _ w619 ⟨k614, rfl, hk615, hk616, kR617, hg618⟩
    have hb620 := grown_trans hb612 hg618
    refine wpo_quo (c := k614 / 2) rfl rfl (by omega) (by omega) (by omega) rfl rfl ?_
    refine wpo_fieldAddr (o' := 3) fo_45_2 rfl rfl rfl ?_
    have k621 := (hS611.blk.grown hg618 (some_ne (by omega)))
    refine wpo_store1 (v := .int .i64 (k614 / 2)) (cs' := #[.int .i64 1, .int .i64 0, .int .i64 0, .int .i64 (k614 / 2), .int .i64 k602, .slice (some ⟨B588, 0, none⟩) 0 cap589, .slice (some ⟨B592, 0, none⟩) 0 cap593, .int .i64 0]) ot_3 rfl rfl rfl k621 (Nat.le_of_ble_eq_true rfl) rfl ?_
    intro w622 hS623
    have hb624 := low1 hb620 hS623.grw (by omega)
    refine wpo_nil ?_
    refine blk_n ?_
    refine thn_n ?_
    refine wpf_seq_region ?_
    refine wpo_loadn (vs := [.int .i64 1, .int .i64 0, .int .i64 0, .int .i64 (k614 / 2), .int .i64 k602, .slice (some ⟨B588, 0, none⟩) 0 cap589, .slice (some ⟨B592, 0, none⟩) 0 cap593, .int .i64 0]) rt_45 rfl rfl (hS623.blk.rangeL 0 8 rfl) rfl ?_
    have k625 := ((((((k582.grown0 hg587).grown hS599.grw (some_ne (by omega))).grown hg606 (some_ne (by omega))).grown hS611.grw (some_ne (by omega))).grown hg618 (some_ne (by omega))).grown hS623.grw (some_ne (by omega)))
    refine wpo_storen (vs := [.int .i64 1, .int .i64 0, .int .i64 0, .int .i64 (k614 / 2), .int .i64 k602, .slice (some ⟨B588, 0, none⟩) 0 cap589, .slice (some ⟨B592, 0, none⟩) 0 cap593, .int .i64 0]) (cs' := #[.int .i64 1, .int .i64 0, .int .i64 0, .int .i64 (k614 / 2), .int .i64 k602, .slice (some ⟨B588, 0, none⟩) 0 cap589, .slice (some ⟨B592, 0, none⟩) 0 cap593, .int .i64 0]) rt_45 rfl rfl rfl (by simp [Value.oneCell']) k625 (Nat.le_of_ble_eq_true rfl) rfl ?_
    intro w626 hS627
    have hb628 := low1 hb624 hS627.grw (by omega)
    refine wpo_nil ?_
    refine wpf_ret ?_
    have k629 := ((((((hO595.grown hS599.grw (some_ne (by omega))).grown hg606 (some_ne (by omega))).grown hS611.grw (some_ne (by omega))).grown hg618 (some_ne (by omega))).grown hS623.grw (some_ne (by omega))).grown hS627.grw (some_ne (by omega)))
    have k630 := ((((((hO591.grown hS599.grw (some_ne (by omega))).grown hg606 (some_ne (by omega))).grown hS611.grw (some_ne (by omega))).grown hg618 (some_ne (by omega))).grown hS623.grw (some_ne (by omega))).grown hS627.grw (some_ne (by omega)))
    have k631 := ((kR617.grown hS623.grw (some_ne (by omega))).grown hS627.grw (some_ne (by omega)))
    refine ⟨.agg #[.int .i64 1, .int .i64 0, .int .i64 0, .int .i64 (k614 / 2), .int .i64 k602, .slice (some ⟨B588, 0, none⟩) 0 cap589, .slice (some ⟨B592, 0, none⟩) 0 cap593, .int .i64 0], resC rfl (resCell_mk (vs := [.int .i64 1, .int .i64 0, .int .i64 0, .int .i64 (k614 / 2), .int .i64 k602, .slice (some ⟨B588, 0, none⟩) 0 cap589, .slice (some ⟨B592, 0, none⟩) 0 cap593, .int .i64 0]) rt_45 rfl rfl (hS627.blk.rangeL 0 8 rfl)), ⟨⟨1, ⟨0, 0⟩, k614 / 2, k602, ([] : List Rt), ([] : List Int), 0⟩, some ⟨B588, 0, none⟩, cap589, some ⟨B592, 0, none⟩, cap593⟩, (p107 + 1 + 1), rfl, ⟨OwnN.of k629 hlB592, ⟨([] : List Rt), OwnN.of k630 hlB588, rfl, ?_⟩, ?_, ?_, ⟨show (0 : Int) ≤ k614 / 2 by omega, show k614 / 2 ≤ (1 : Int) by omega⟩⟩, by omega, by omega, k631, hb628⟩
    ·
     intro x hx; first | (simp [zeros4] at hx; subst hx; exact ⟨by decide, by decide, by decide, by decide⟩) | simp at hx
    ·
     first | exact Nat.le_of_ble_eq_true rfl | omega | (simp only [List.length_nil]; omega)
    ·
     exact Nat.le_of_ble_eq_true rfl
   ·
    have h632 := of_decide_eq_false h579
    refine wpf_skip ?_
    refine thn_n ?_
    refine wpf_seq ?_
    refine wpf_seq_region ?_
    refine wpo_fieldAddr (o' := 0) fo_45_0 rfl rfl rfl ?_
    refine wpo_load1 (v := .int .i64 k) ot_3 rfl (hS577.blk.cell rfl) rfl ?_
    refine wpo_nil ?_
    refine wpf_block ?_
    refine wpf_seq_region ?_
    refine wpo_eql (q := decide (k = 1)) rfl rfl rfl rfl ?_
    refine wpo_assign (v := .bool (decide (k = 1))) rfl rfl ?_
    refine wpo_nil ?_
    refine wpf_cond rfl (fun h633 => ?_) (fun h633 => ?_)
    ·
     have h634 := of_decide_eq_true h633
     refine wpf_seq_region ?_
     refine wpo_move (v := .pointer (some ⟨R, 0, none⟩)) rfl rfl ?_
     have k635 := ((k573.grown0 hN572.grw).grown hS577.grw (some_ne (by omega)))
     refine wpo_call (vs := [.pointer (some ⟨R, 0, none⟩), .int .i64 20]) gf_60 (args_cons rfl (args_cons rfl args_nil)) rfl (pick_c p107 20 (by omega) _ R bs _ _ _ k635 (by omega) (SlLt.low1 hs hb578 hlo) (by first | exact hb | exact fun b h => hb b (List.mem_of_mem_take h)) (by first | omega | (rw [List.length_take]; omega))) ?_
     rintro _ w641 ⟨k636, rfl, hk637, hk638, kR639, hg640⟩
     have hb642 := grown_trans hb578 hg640
     refine wpo_fieldAddr (o' := 4) fo_45_3 rfl rfl rfl ?_
     have k643 := (hS577.blk.grown hg640 (some_ne (by omega)))
     refine wpo_store1 (v := .int .i64 k636) (cs' := #[.int .i64 k, .int .i64 l106.s, .int .i64 l106.v, .int .i64 0, .int .i64 k636, .slice (some ⟨B561, 0, none⟩) 0 cap562, .slice (some ⟨B565, 0, none⟩) 0 cap566, .int .i64 to]) ot_3 rfl rfl rfl k643 (Nat.le_of_ble_eq_true rfl) rfl ?_
     intro w644 hS645
     have hb646 := low1 hb642 hS645.grw (by omega)
     refine wpo_nil ?_
     refine wpf_region ?_
     refine wpo_move (v := .pointer (some ⟨R, 0, none⟩)) rfl rfl ?_
     have k647 := (kR639.grown hS645.grw (some_ne (by omega)))
     refine wpo_call (vs := [.pointer (some ⟨R, 0, none⟩), .int .i64 3]) gf_60 (args_cons rfl (args_cons rfl args_nil)) rfl (pick_c (p107 + 1) 3 (by omega) _ R bs _ _ _ k647 (by omega) (SlLt.low1 hs hb646 hlo) (by first | exact hb | exact fun b h => hb b (List.mem_of_mem_take h)) (by first | omega | (rw [List.length_take]; omega))) ?_
     rintro _ w653 ⟨k648, rfl, hk649, hk650, kR651, hg652⟩
     have hb654 := grown_trans hb646 hg652
     refine wpo_quo (c := k648 / 2) rfl rfl (by omega) (by omega) (by omega) rfl rfl ?_
     refine wpo_fieldAddr (o' := 3) fo_45_2 rfl rfl rfl ?_
     have k655 := (hS645.blk.grown hg652 (some_ne (by omega)))
     refine wpo_store1 (v := .int .i64 (k648 / 2)) (cs' := #[.int .i64 k, .int .i64 l106.s, .int .i64 l106.v, .int .i64 (k648 / 2), .int .i64 k636, .slice (some ⟨B561, 0, none⟩) 0 cap562, .slice (some ⟨B565, 0, none⟩) 0 cap566, .int .i64 to]) ot_3 rfl rfl rfl k655 (Nat.le_of_ble_eq_true rfl) rfl ?_
     intro w656 hS657
     have hb658 := low1 hb654 hS657.grw (by omega)
     refine wpo_nil ?_
     refine blk_n ?_
     refine thn_n ?_
     refine wpf_seq_region ?_
     refine wpo_loadn (vs := [.int .i64 k, .int .i64 l106.s, .int .i64 l106.v, .int .i64 (k648 / 2), .int .i64 k636, .slice (some ⟨B561, 0, none⟩) 0 cap562, .slice (some ⟨B565, 0, none⟩) 0 cap566, .int .i64 to]) rt_45 rfl rfl (hS657.blk.rangeL 0 8 rfl) rfl ?_
     have k659 := ((((((k574.grown0 hN572.grw).grown hS577.grw (some_ne (by omega))).grown hg640 (some_ne (by omega))).grown hS645.grw (some_ne (by omega))).grown hg652 (some_ne (by omega))).grown hS657.grw (some_ne (by omega)))
     refine wpo_storen (vs := [.int .i64 k, .int .i64 l106.s, .int .i64 l106.v, .int .i64 (k648 / 2), .int .i64 k636, .slice (some ⟨B561, 0, none⟩) 0 cap562, .slice (some ⟨B565, 0, none⟩) 0 cap566, .int .i64 to]) (cs' := #[.int .i64 k, .int .i64 l106.s, .int .i64 l106.v, .int .i64 (k648 / 2), .int .i64 k636, .slice (some ⟨B561, 0, none⟩) 0 cap562, .slice (some ⟨B565, 0, none⟩) 0 cap566, .int .i64 to]) rt_45 rfl rfl rfl (by simp [Value.oneCell']) k659 (Nat.le_of_ble_eq_true rfl) rfl ?_
     intro w660 hS661
     have hb662 := low1 hb658 hS661.grw (by omega)
     refine wpo_nil ?_
     refine wpf_ret ?_
     have k663 := (((((((hO568.grown0 hN572.grw).grown hS577.grw (some_ne (by omega))).grown hg640 (some_ne (by omega))).grown hS645.grw (some_ne (by omega))).grown hg652 (some_ne (by omega))).grown hS657.grw (some_ne (by omega))).grown hS661.grw (some_ne (by omega)))
     have k664 := (((((((hO564.grown0 hN572.grw).grown hS577.grw (some_ne (by omega))).grown hg640 (some_ne (by omega))).grown hS645.grw (some_ne (by omega))).grown hg652 (some_ne (by omega))).grown hS657.grw (some_ne (by omega))).grown hS661.grw (some_ne (by omega)))
     have k665 := ((kR651.grown hS657.grw (some_ne (by omega))).grown hS661.grw (some_ne (by omega)))
     refine ⟨.agg #[.int .i64 k, .int .i64 l106.s, .int .i64 l106.v, .int .i64 (k648 / 2), .int .i64 k636, .slice (some ⟨B561, 0, none⟩) 0 cap562, .slice (some ⟨B565, 0, none⟩) 0 cap566, .int .i64 to], resC rfl (resCell_mk (vs := [.int .i64 k, .int .i64 l106.s, .int .i64 l106.v, .int .i64 (k648 / 2), .int .i64 k636, .slice (some ⟨B561, 0, none⟩) 0 cap562, .slice (some ⟨B565, 0, none⟩) 0 cap566, .int .i64 to]) rt_45 rfl rfl (hS661.blk.rangeL 0 8 rfl)), ⟨⟨k, l106, k648 / 2, k636, ([] : List Rt), ([] : List Int), to⟩, some ⟨B561, 0, none⟩, cap562, some ⟨B565, 0, none⟩, cap566⟩, (p107 + 1 + 1), rfl, ⟨OwnN.of k663 hlB565, ⟨([] : List Rt), OwnN.of k664 hlB561, rfl, ?_⟩, ?_, ?_, ⟨show (0 : Int) ≤ k648 / 2 by omega, show k648 / 2 ≤ (1 : Int) by omega⟩⟩, by omega, by omega, k665, hb662⟩
     ·
      intro x hx; first | (simp [zeros4] at hx; subst hx; exact ⟨by decide, by decide, by decide, by decide⟩) | simp at hx
     ·
      first | exact Nat.le_of_ble_eq_true rfl | omega | (simp only [List.length_nil]; omega)
     ·
      exact Nat.le_of_ble_eq_true rfl
    ·
     have h666 := of_decide_eq_false h633
     refine wpf_seq_region ?_
     refine wpo_eql (q := decide (k = 4)) rfl rfl rfl rfl ?_
     refine wpo_assign (v := .bool (decide (k = 4))) rfl rfl ?_
     refine wpo_nil ?_
     refine wpf_cond rfl (fun h667 => ?_) (fun h667 => ?_)
     ·
      have h668 := of_decide_eq_true h667
      refine wpf_seq_region ?_
      refine wpo_move (v := .pointer (some ⟨R, 0, none⟩)) rfl rfl ?_
      have k669 := ((k573.grown0 hN572.grw).grown hS577.grw (some_ne (by omega)))
      refine wpo_call (vs := [.pointer (some ⟨R, 0, none⟩), .int .i64 4]) gf_60 (args_cons rfl (args_cons rfl args_nil)) rfl (pick_c p107 4 (by omega) _ R bs _ _ _ k669 (by omega) (SlLt.low1 hs hb578 hlo) (by first | exact hb | exact fun b h => hb b (List.mem_of_mem_take h)) (by first | omega | (rw [List.length_take]; omega))) ?_
      rintro _ w675 ⟨k670, rfl, hk671, hk672, kR673, hg674⟩
      have hb676 := grown_trans hb578 hg674
      refine wpo_assign (v := .int .i64 k670) rfl rfl ?_
      refine wpo_nil ?_
      refine wpf_block ?_
      have k677 := (((hO568.grown0 hN572.grw).grown hS577.grw (some_ne (by omega))).grown hg674 (some_ne (by omega)))
      have k678 := (((k574.grown0 hN572.grw).grown hS577.grw (some_ne (by omega))).grown hg674 (some_ne (by omega)))
      have k679 := (((hO564.grown0 hN572.grw).grown hS577.grw (some_ne (by omega))).grown hg674 (some_ne (by omega)))
      have k680 := (hS577.blk.grown hg674 (some_ne (by omega)))
      refine wpf_loopN (fun mm f' w' => ∃ (n : Int) (p1 : Int) (Bq : Nat) (cq : Nat) (ys : List Int), mm = n.toNat ∧ (0 ≤ n ∧ n ≤ 3) ∧ (p107 + 1 ≤ p1 ∧ p1 ≤ (p107 + 1) + 3 - n) ∧ (ys.length : Int) ≤ 3 - n ∧ Dw.Own w' Bq 3 1 cq ys.length (ys.flatMap icell) ∧ w.heap.size ≤ Bq ∧ R ≠ Bq ∧ B101 ≠ Bq ∧ B561 ≠ Bq ∧ B570 ≠ Bq ∧ f' 9 = .int .i64 n ∧ f' 0 = .pointer (some ⟨R, 0, none⟩) ∧ f' 6 = .pointer (some ⟨B101, 0, none⟩) ∧ f' 7 = .pointer (some ⟨B570, 0, none⟩) ∧ w.grownBy w' (some R) ∧ Blk w' B101 45 #[.int .i64 0, .int .i64 0, .int .i64 0, .int .i64 0, .int .i64 0, .slice none 0 0, .slice none 0 0, .int .i64 0] ∧ Dw.Own w' B561 29 5 cap562 ([] : List Rt).length (([] : List Rt).flatMap Rt.cells) ∧ Blk w' B570 45 #[.int .i64 k, .int .i64 l106.s, .int .i64 l106.v, .int .i64 0, .int .i64 0, .slice (some ⟨B561, 0, none⟩) 0 cap562, .slice (some ⟨Bq, 0, none⟩) ys.length cq, .int .i64 to] ∧ Blk w' R 121 #[.slice a bs.length c, .int .i64 p1]) (k670.toNat) ⟨k670, (p107 + 1), B565, cap566, ([] : List Int), rfl, (by omega), (by omega), (by simp only [List.length_nil]; omega), k677, hlB565, (by omega), (by omega), (by omega), (by omega), rfl, rfl, rfl, rfl, hb676, k678, k679, k680, kR673⟩ ?_
      rintro mm f681 w682 ⟨n, p1, Bq, cq, ys, hm684, hnn, hpp, hyl, hOwn, hlBq, hne0, hne1, hne2, hne3, e685, e686, e687, e688, hb683, k689, k690, k691, k692⟩
      refine wpf_seq ?_
      refine wpf_seq_region ?_
      refine wpo_move (v := .int .i64 n) e685 rfl ?_
      refine wpo_gtr (q := decide (0 < n)) rfl rfl rfl rfl ?_
      refine wpo_nil ?_
      refine wpf_cond rfl (fun h693 => ?_) (fun h693 => ?_)
      ·
       have h694 := of_decide_eq_true h693
       refine wpf_skip ?_
       refine thn_n ?_
       refine wpf_seq ?_
       refine wpf_block ?_
       refine wpf_drawI (m := 5) [[], [0], [], [2], [2, 3], [0, 1, 2, 3, 4], [0, 1, 2, 3, 4, 5], [0, 1, 2, 3, 4, 5, 6]] (fun S F w' => ∃ (k784 : Int) (B791 : Nat), w682.grownBy w' (some R) ∧ F 0 = .pointer (some ⟨R, 0, none⟩) ∧ F 6 = .pointer (some ⟨B101, 0, none⟩) ∧ F 7 = .pointer (some ⟨B570, 0, none⟩) ∧ F 9 = .int .i64 n ∧ (S 3 = false → Blk w' R 121 #[.slice a bs.length c, .int .i64 p1]) ∧ (S 0 = true → F 45 = .pointer (some ⟨B570, 6, none⟩)) ∧ (S 1 = true → F 46 = .slice (some ⟨Bq, 0, none⟩) ys.length cq) ∧ (S 2 = true → F 47 = .pointer (some ⟨R, 0, none⟩)) ∧ (S 3 = true → F 48 = .int .i64 k784 ∧ 0 ≤ k784 ∧ (k784 < 20 ∨ k784 = 0) ∧ Blk w' R 121 #[.slice a bs.length c, .int .i64 (p1 + 1)]) ∧ (S 4 = true → F 49 = .slice (some ⟨B791, 0, none⟩) 1 1 ∧ w.heap.size ≤ B791 ∧ Blk w' B791 3 (([k784] : List Int).flatMap icell).toArray ∧ B101 < B791 ∧ B561 < B791 ∧ B570 < B791 ∧ R < B791 ∧ Bq < B791 ∧ w682.heap.size ≤ B791)) mixed_ (by kernel_rfl) ⟨0, 0, grown_drew _, e686, e687, e688, e685, fun _ => (k692).grown0 (grown_drew _), fun h => not_begun h, fun h => not_begun h, fun h => not_begun h, fun h => not_begun h, fun h => not_begun h⟩ ?_ ?_
       ·
        refine preL_cons (fun S F w799 hS hbef hcl hI => ?_) ?_
        ·
         obtain ⟨k784, B791, hi800, e801, e802, e803, e804, c_old_R, c_0, c_1, c_2, c_3, c_4⟩ := hI
         have hb805 := grown_trans hb683 hi800
         refine wpo_fieldAddr (o' := 6) fo_45_5 e803 rfl rfl ?_
         exact wpo_nil ⟨k784, B791, hi800, e801, e802, e803, e804, fun h => c_old_R h, fun _ => rfl, fun h => undone 1 hS hcl rfl h, c_2, c_3, c_4⟩
        refine preL_cons (fun S F w806 hS hbef hcl hI => ?_) ?_
        ·
         obtain ⟨k784, B791, hi807, e808, e809, e810, e811, c_old_R, c_0, c_1, c_2, c_3, c_4⟩ := hI
         have hb812 := grown_trans hb683 hi807
         obtain e813 := c_0 (ready_of 0 hbef rfl)
         have k814 := (k691.grown hi807 (some_ne (by omega)))
         refine wpo_load1 (v := .slice (some ⟨Bq, 0, none⟩) ys.length cq) ot_43 e813 (k814.cell rfl) rfl ?_
         exact wpo_nil ⟨k784, B791, hi807, e808, e809, e810, e811, fun h => c_old_R h, c_0, fun _ => rfl, c_2, c_3, c_4⟩
        refine preL_cons (fun S F w815 hS hbef hcl hI => ?_) ?_
        ·
         obtain ⟨k784, B791, hi816, e817, e818, e819, e820, c_old_R, c_0, c_1, c_2, c_3, c_4⟩ := hI
         have hb821 := grown_trans hb683 hi816
         refine wpo_move (v := .pointer (some ⟨R, 0, none⟩)) e817 rfl ?_
         exact wpo_nil ⟨k784, B791, hi816, e817, e818, e819, e820, fun h => c_old_R h, c_0, c_1, fun _ => rfl, fun h => undone 3 hS hcl rfl h, fun h => undone 4 hS hcl rfl h⟩
        refine preL_cons (fun S F w822 hS hbef hcl hI => ?_) ?_
        ·
         obtain ⟨k784, B791, hi823, e824, e825, e826, e827, c_old_R, c_0, c_1, c_2, c_3, c_4⟩ := hI
         have hb828 := grown_trans hb683 hi823
         obtain e829 := c_2 (ready_of 2 hbef rfl)
         refine wpo_call (vs := [.pointer (some ⟨R, 0, none⟩), .int .i64 20]) gf_60 (args_cons e829 (args_cons rfl args_nil)) rfl (pick_c p1 20 (by omega) _ R bs _ _ _ (c_old_R hS) (by omega) (SlLt.low1 hs hb828 hlo) (by first | exact hb | exact fun b h => hb b (List.mem_of_mem_take h)) (by first | omega | (rw [List.length_take]; omega))) ?_
         rintro _ w835 ⟨k830, rfl, hk831, hk832, kR833, hg834⟩
         have hb836 := grown_trans hb828 hg834
         exact wpo_nil ⟨k830, B791, (grown_trans hi823 hg834), e824, e825, e826, e827, fun h => not_open h, c_0, c_1, c_2, fun _ => ⟨rfl, hk831, hk832, kR833⟩, fun h => undone 4 hS hcl rfl h⟩
        refine preL_cons (fun S F w837 hS hbef hcl hI => ?_) ?_
        ·
         obtain ⟨k784, B791, hi838, e839, e840, e841, e842, c_old_R, c_0, c_1, c_2, c_3, c_4⟩ := hI
         have hb843 := grown_trans hb683 hi838
         obtain e844 := c_2 (ready_of 2 hbef rfl)
         obtain ⟨e845, hk785, hk786, ks3_R⟩ := c_3 (ready_of 3 hbef rfl)
         refine wpo_buildSlice (ps := [(0, .int .i64 k784)]) (e := 3) (cs := (([k784] : List Int).flatMap icell).toArray) (parts_cons e845 parts_nil) (fun _ => by kernel_rfl) rfl ?_
         intro B846 w847 hN848
         have hlB846 := hN_ge hN848 hb843
         have k849 := (k689.grown hi838 (some_ne (by omega)))
         have lt_B101_B846 := hN_gtl hN848 (k849).lt
         have k850 := (k690.grown hi838 (some_ne (by omega)))
         have lt_B561_B846 := hN_gtl hN848 (k850).lt
         have k851 := (k691.grown hi838 (some_ne (by omega)))
         have lt_B570_B846 := hN_gtl hN848 (k851).lt
         have k852 := (hOwn.grown hi838 (some_ne (by omega)))
         have lt_Bq_B846 := hN_gtl hN848 (k852).lt
         have lt_R_B846 := hN_gtl hN848 (ks3_R).lt
         have hb853 := low0 hb843 hN848.grw
         exact wpo_nil ⟨k784, B846, (low0 hi838 hN848.grw), e839, e840, e841, e842, fun hn => not_open ((ready_of 3 hbef rfl).symm.trans hn), c_0, c_1, c_2, fun h => let ⟨y854, y855, y856, y857⟩ := c_3 h; ⟨y854, y855, y856, (y857).grown0 hN848.grw⟩, fun _ => ⟨rfl, hlB846, hN848.blk, lt_B101_B846, lt_B561_B846, lt_B570_B846, (by omega), lt_Bq_B846, (Nat.le_trans hi838.size (Nat.le_of_eq hN848.eq.symm))⟩⟩
        exact preL_nil
       ·
        intro S F w858 hall hI
        obtain ⟨k784, B791, hi859, e860, e861, e862, e863, c_old_R, c_0, c_1, c_2, c_3, c_4⟩ := hI
        have hb864 := grown_trans hb683 hi859
        obtain e865 := c_0 (hall 0 (by decide))
        obtain e866 := c_1 (hall 1 (by decide))
        obtain e867 := c_2 (hall 2 (by decide))
        obtain ⟨e868, hk785, hk786, ks3_R⟩ := c_3 (hall 3 (by decide))
        obtain ⟨e869, hlB791, kb_B791, lt_B101_B791, lt_B561_B791, lt_B570_B791, lt_R_B791, lt_Bq_B791, hk_B791⟩ := c_4 (hall 4 (by decide))
        have k870 := (hOwn.grown hi859 (some_ne (by omega)))
        have k871 := (k689.grown hi859 (some_ne (by omega)))
        have k872 := (k690.grown hi859 (some_ne (by omega)))
        have k873 := (k691.grown hi859 (some_ne (by omega)))
        refine wpo_append (g := icell) (ys := ys) (zs := ([k784] : List Int)) mk_43 rfl wide_int (by omega) onec_int e866 e869 k870 (rows_sl wide_int kb_B791) (by simp only [List.length_cons, List.length_nil]; omega) (by omega) rfl ?_
        intro B874 cap875 w876 hO877 hg878 hor879
        have hlB874 : w.heap.size ≤ B874 := by rcases hor879 with h | h; (rw [h]; exact hlBq); (rw [h]; exact hb864.size)
        have ne_B101_B874 : B101 ≠ B874 := by have h := (k871).lt; omega
        have ne_B561_B874 : B561 ≠ B874 := by have h := (k872).lt; omega
        have ne_B570_B874 : B570 ≠ B874 := by have h := (k873).lt; omega
        have ne_R_B874 : R ≠ B874 := by have h := (ks3_R).lt; omega
        have ne_B791_B874 : B791 ≠ B874 := by have h := (kb_B791).lt; omega
        have hb880 := low1 hb864 hg878 (by omega)
        refine wpo_fieldAddr (o' := 6) fo_45_5 e862 rfl rfl ?_
        have k881 := (k873.grown hg878 (some_ne (by omega)))
        refine wpo_store1 (v := .slice (some ⟨B874, 0, none⟩) ((ys ++ ([k784] : List Int)).length) cap875) (cs' := #[.int .i64 k, .int .i64 l106.s, .int .i64 l106.v, .int .i64 0, .int .i64 0, .slice (some ⟨B561, 0, none⟩) 0 cap562, .slice (some ⟨B874, 0, none⟩) ((ys ++ ([k784] : List Int)).length) cap875, .int .i64 to]) ot_43 rfl rfl rfl k881 (Nat.le_of_ble_eq_true rfl) rfl ?_
        intro w882 hS883
        have hb884 := low1 hb880 hS883.grw (by omega)
        refine wpo_nil ?_
        refine blk_n ?_
        refine thn_n ?_
        refine wpf_region ?_
        refine wpo_move (v := .int .i64 n) e863 rfl ?_
        refine wpo_sub (c := n - 1) rfl rfl (by omega) (by omega) (by omega) rfl ?_
        refine wpo_assign (v := .int .i64 (n - 1)) rfl rfl ?_
        refine wpo_nil ?_
        refine thn_n ?_
        have k885 := (hO877.grown hS883.grw (some_ne (by omega)))
        have k886 := ((k871.grown hg878 (some_ne (by omega))).grown hS883.grw (some_ne (by omega)))
        have k887 := ((k872.grown hg878 (some_ne (by omega))).grown hS883.grw (some_ne (by omega)))
        have k888 := ((ks3_R.grown hg878 (some_ne (by omega))).grown hS883.grw (some_ne (by omega)))
        exact ⟨(n - 1).toNat, by omega, (n - 1), (p1 + 1), B874, cap875, (ys ++ ([k784] : List Int)), rfl, (by omega), (by omega), (by simp only [List.length_append, List.length_cons, List.length_nil]; omega), k885, hlB874, (by omega), (by omega), (by omega), (by omega), rfl, e860, e861, e862, hb884, k886, k887, hS883.blk, k888⟩
      ·
       have h889 := of_decide_eq_false h693
       refine wpf_exit ?_
       refine thn_e ?_
       refine thn_e ?_
       refine blk_e ?_
       refine blk_n ?_
       refine thn_n ?_
       refine wpf_seq_region ?_
       refine wpo_loadn (vs := [.int .i64 k, .int .i64 l106.s, .int .i64 l106.v, .int .i64 0, .int .i64 0, .slice (some ⟨B561, 0, none⟩) 0 cap562, .slice (some ⟨Bq, 0, none⟩) ys.length cq, .int .i64 to]) rt_45 e688 rfl (k691.rangeL 0 8 rfl) rfl ?_
       refine wpo_storen (vs := [.int .i64 k, .int .i64 l106.s, .int .i64 l106.v, .int .i64 0, .int .i64 0, .slice (some ⟨B561, 0, none⟩) 0 cap562, .slice (some ⟨Bq, 0, none⟩) ys.length cq, .int .i64 to]) (cs' := #[.int .i64 k, .int .i64 l106.s, .int .i64 l106.v, .int .i64 0, .int .i64 0, .slice (some ⟨B561, 0, none⟩) 0 cap562, .slice (some ⟨Bq, 0, none⟩) ys.length cq, .int .i64 to]) rt_45 e687 rfl rfl (by simp [Value.oneCell']) k689 (Nat.le_of_ble_eq_true rfl) rfl ?_
       intro w890 hS891
       have hb892 := low1 hb683 hS891.grw (by omega)
       refine wpo_nil ?_
       refine wpf_ret ?_
       have k893 := (hOwn.grown hS891.grw (some_ne (by omega)))
       have k894 := (k690.grown hS891.grw (some_ne (by omega)))
       have k895 := (k692.grown hS891.grw (some_ne (by omega)))
       refine ⟨.agg #[.int .i64 k, .int .i64 l106.s, .int .i64 l106.v, .int .i64 0, .int .i64 0, .slice (some ⟨B561, 0, none⟩) 0 cap562, .slice (some ⟨Bq, 0, none⟩) ys.length cq, .int .i64 to], resC rfl (resCell_mk (vs := [.int .i64 k, .int .i64 l106.s, .int .i64 l106.v, .int .i64 0, .int .i64 0, .slice (some ⟨B561, 0, none⟩) 0 cap562, .slice (some ⟨Bq, 0, none⟩) ys.length cq, .int .i64 to]) rt_45 e687 rfl (hS891.blk.rangeL 0 8 rfl)), ⟨⟨k, l106, 0, 0, ([] : List Rt), ys, to⟩, some ⟨B561, 0, none⟩, cap562, some ⟨Bq, 0, none⟩, cq⟩, p1, rfl, ⟨OwnN.of k893 hlBq, ⟨([] : List Rt), OwnN.of k894 hlB561, rfl, ?_⟩, ?_, ?_, ⟨show (0 : Int) ≤ 0 by omega, show 0 ≤ (1 : Int) by omega⟩⟩, by omega, by omega, k895, hb892⟩
       ·
        intro x hx; first | (simp [zeros4] at hx; subst hx; exact ⟨by decide, by decide, by decide, by decide⟩) | simp at hx
       ·
        first | exact Nat.le_of_ble_eq_true rfl | omega | (simp only [List.length_nil]; omega)
       ·
        exact Nat.le_of_ble_eq_true rfl
     ·
      have h896 := of_decide_eq_false h667
      refine wpf_seq_region ?_
      refine wpo_eql (q := decide (k = 3)) rfl rfl rfl rfl ?_
      refine wpo_assign (v := .bool (decide (k = 3))) rfl rfl ?_
      refine wpo_nil ?_
      refine wpf_condf rfl h554 ?_
      refine wpf_skip ?_
      refine blk_n ?_
      refine thn_n ?_
      refine wpf_seq_region ?_
      refine wpo_loadn (vs := [.int .i64 k, .int .i64 l106.s, .int .i64 l106.v, .int .i64 0, .int .i64 0, .slice (some ⟨B561, 0, none⟩) 0 cap562, .slice (some ⟨B565, 0, none⟩) 0 cap566, .int .i64 to]) rt_45 rfl rfl (hS577.blk.rangeL 0 8 rfl) rfl ?_
      have k897 := ((k574.grown0 hN572.grw).grown hS577.grw (some_ne (by omega)))
      refine wpo_storen (vs := [.int .i64 k, .int .i64 l106.s, .int .i64 l106.v, .int .i64 0, .int .i64 0, .slice (some ⟨B561, 0, none⟩) 0 cap562, .slice (some ⟨B565, 0, none⟩) 0 cap566, .int .i64 to]) (cs' := #[.int .i64 k, .int .i64 l106.s, .int .i64 l106.v, .int .i64 0, .int .i64 0, .slice (some ⟨B561, 0, none⟩) 0 cap562, .slice (some ⟨B565, 0, none⟩) 0 cap566, .int .i64 to]) rt_45 rfl rfl rfl (by simp [Value.oneCell']) k897 (Nat.le_of_ble_eq_true rfl) rfl ?_
      intro w898 hS899
      have hb900 := low1 hb578 hS899.grw (by omega)
      refine wpo_nil ?_
      refine wpf_ret ?_
      have k901 := (((hO568.grown0 hN572.grw).grown hS577.grw (some_ne (by omega))).grown hS899.grw (some_ne (by omega)))
      have k902 := (((hO564.grown0 hN572.grw).grown hS577.grw (some_ne (by omega))).grown hS899.grw (some_ne (by omega)))
      have k903 := (((k573.grown0 hN572.grw).grown hS577.grw (some_ne (by omega))).grown hS899.grw (some_ne (by omega)))
      refine ⟨.agg #[.int .i64 k, .int .i64 l106.s, .int .i64 l106.v, .int .i64 0, .int .i64 0, .slice (some ⟨B561, 0, none⟩) 0 cap562, .slice (some ⟨B565, 0, none⟩) 0 cap566, .int .i64 to], resC rfl (resCell_mk (vs := [.int .i64 k, .int .i64 l106.s, .int .i64 l106.v, .int .i64 0, .int .i64 0, .slice (some ⟨B561, 0, none⟩) 0 cap562, .slice (some ⟨B565, 0, none⟩) 0 cap566, .int .i64 to]) rt_45 rfl rfl (hS899.blk.rangeL 0 8 rfl)), ⟨⟨k, l106, 0, 0, ([] : List Rt), ([] : List Int), to⟩, some ⟨B561, 0, none⟩, cap562, some ⟨B565, 0, none⟩, cap566⟩, p107, rfl, ⟨OwnN.of k901 hlB565, ⟨([] : List Rt), OwnN.of k902 hlB561, rfl, ?_⟩, ?_, ?_, ⟨show (0 : Int) ≤ 0 by omega, show 0 ≤ (1 : Int) by omega⟩⟩, by omega, by omega, k903, hb900⟩
      ·
       intro x hx; first | (simp [zeros4] at hx; subst hx; exact ⟨by decide, by decide, by decide, by decide⟩) | simp at hx
      ·
       first | exact Nat.le_of_ble_eq_true rfl | omega | (simp only [List.length_nil]; omega)
      ·
       exact Nat.le_of_ble_eq_true rfl
  ·
   have k904 := (hN103.blk.grown hg115 (some_ne (by omega)))
   have h905 : thingOk (⟨k, l106, 0, 0, [], [], to⟩ : Th) = false := (newOk_n h118).symm.trans h556
   refine wpo_call (vs := [.int .i64 k, .agg #[.int .i64 l106.s, .int .i64 l106.v], .int .i64 to]) gf_23 (args_cons rfl (args_cons rfl (args_cons rfl args_nil))) rfl (sThingNew_nf k to l106 h118 h556 _) ?_
   rintro _ w906 ⟨rfl, hg907⟩
   have hb908 := low0 hb117 hg907
   refine wpo_move (v := .tuple #[.agg #[.int .i64 0, .int .i64 0, .int .i64 0, .int .i64 0, .int .i64 0, .slice none 0 0, .slice none 0 0, .int .i64 0], .bool false]) rfl rfl ?_
   refine wpo_extract (v := .agg #[.int .i64 0, .int .i64 0, .int .i64 0, .int .i64 0, .int .i64 0, .slice none 0 0, .slice none 0 0, .int .i64 0]) rfl rfl rfl ?_
   refine wpo_extract (v := .bool false) rfl rfl rfl ?_
   refine wpo_alloc (cs := #[.int .i64 0, .int .i64 0, .int .i64 0, .int .i64 0, .int .i64 0, .slice none 0 0, .slice none 0 0, .int .i64 0]) zt_45 rfl rfl ?_
   intro B909 w910 hN911
   have hlB909 := hN_ge hN911 hb908
   have k912 := (kR114.grown0 hg907)
   have lt_R_B909 := hN_gtl hN911 (k912).lt
   have k913 := (k904.grown0 hg907)
   have lt_B101_B909 := hN_gtl hN911 (k913).lt
   have hb914 := low0 hb908 hN911.grw
   refine wpo_storen (vs := [.int .i64 0, .int .i64 0, .int .i64 0, .int .i64 0, .int .i64 0, .slice none 0 0, .slice none 0 0, .int .i64 0]) (cs' := #[.int .i64 0, .int .i64 0, .int .i64 0, .int .i64 0, .int .i64 0, .slice none 0 0, .slice none 0 0, .int .i64 0]) rt_45 rfl rfl rfl (by simp [Value.oneCell']) hN911.blk (Nat.le_of_ble_eq_true rfl) rfl ?_
   intro w915 hS916
   have hb917 := low1 hb914 hS916.grw (by omega)
   refine wpo_assign (v := .bool false) rfl rfl ?_
   refine wpo_nil ?_
   refine wpf_seq ?_
   refine wpf_seq_region ?_
   refine wpo_fieldAddr (o' := 0) fo_45_0 rfl rfl rfl ?_
   refine wpo_load1 (v := .int .i64 0) ot_3 rfl (hS916.blk.cell rfl) rfl ?_
   refine wpo_eql (q := true) rfl rfl (by decide) rfl ?_
   refine wpo_nil ?_
   refine wpf_condt rfl rfl ?_
   refine wpf_region ?_
   refine wpo_build (ps := []) (v := .agg #[.int .i64 0, .int .i64 0]) parts_nil (by kernel_rfl) rfl ?_
   have k918 := ((k912.grown0 hN911.grw).grown hS916.grw (some_ne (by omega)))
   have k919 := ((k913.grown0 hN911.grw).grown hS916.grw (some_ne (by omega)))
   have h920 : thingOk (⟨1, ⟨0, 0⟩, 0, 0, [], [], 0⟩ : Th) = true := (newOk_n (by decide)).symm.trans (by decide)
   refine wpo_call (vs := [.int .i64 1, .agg #[.int .i64 0, .int .i64 0], .int .i64 0]) gf_23 (args_cons rfl (args_cons rfl (args_cons rfl args_nil))) rfl (sThingNew_nt 1 0 ⟨0, 0⟩ (by decide) (by decide) _) ?_
   rintro _ w921 ⟨B923, cap924, B927, cap928, rfl, hge925, hO926, hge929, hO930, ne_B923_B927, hg922⟩
   have hb931 := low0 hb917 hg922
   have hlB923 := Nat.le_trans hb917.size hge925
   have lt_R_B923 := Nat.lt_of_lt_of_le (k918).lt hge925
   have lt_B101_B923 := Nat.lt_of_lt_of_le (k919).lt hge925
   have lt_B909_B923 := Nat.lt_of_lt_of_le (hS916.blk).lt hge925
   have hlB927 := Nat.le_trans hb917.size hge929
   have lt_R_B927 := Nat.lt_of_lt_of_le (k918).lt hge929
   have lt_B101_B927 := Nat.lt_of_lt_of_le (k919).lt hge929
   have lt_B909_B927 := Nat.lt_of_lt_of_le (hS916.blk).lt hge929
   refine wpo_move (v := .tuple #[.agg #[.int .i64 1, .int .i64 0, .int .i64 0, .int .i64 0, .int .i64 0, .slice (some ⟨B923, 0, none⟩) 0 cap924, .slice (some ⟨B927, 0, none⟩) 0 cap928, .int .i64 0], .bool true]) rfl rfl ?_
   refine wpo_extract (v := .agg #[.int .i64 1, .int .i64 0, .int .i64 0, .int .i64 0, .int .i64 0, .slice (some ⟨B923, 0, none⟩) 0 cap924, .slice (some ⟨B927, 0, none⟩) 0 cap928, .int .i64 0]) rfl rfl rfl ?_
   refine wpo_extract (v := .bool true) rfl rfl rfl ?_
   have k932 := (hS916.blk.grown0 hg922)
   refine wpo_storen (vs := [.int .i64 1, .int .i64 0, .int .i64 0, .int .i64 0, .int .i64 0, .slice (some ⟨B923, 0, none⟩) 0 cap924, .slice (some ⟨B927, 0, none⟩) 0 cap928, .int .i64 0]) (cs' := #[.int .i64 1, .int .i64 0, .int .i64 0, .int .i64 0, .int .i64 0, .slice (some ⟨B923, 0, none⟩) 0 cap924, .slice (some ⟨B927, 0, none⟩) 0 cap928, .int .i64 0]) rt_45 rfl rfl rfl (by simp [Value.oneCell']) k932 (Nat.le_of_ble_eq_true rfl) rfl ?_
   intro w933 hS934
   have hb935 := low1 hb931 hS934.grw (by omega)
   refine wpo_nil ?_
   refine thn_n ?_
   refine wpf_seq ?_
   refine wpf_seq_region ?_
   refine wpo_fieldAddr (o' := 0) fo_45_0 rfl rfl rfl ?_
   refine wpo_load1 (v := .int .i64 1) ot_3 rfl (hS934.blk.cell rfl) rfl ?_
   refine wpo_nil ?_
   refine wpf_block ?_
   refine wpf_seq_region ?_
   refine wpo_eql (q := true) rfl rfl (by decide) rfl ?_
   refine wpo_assign (v := .bool true) rfl rfl ?_
   refine wpo_nil ?_
   refine wpf_condt rfl rfl ?_
   refine wpf_seq_region ?_
   refine wpo_move (v := .pointer (some ⟨R, 0, none⟩)) rfl rfl ?_
   have k936 := ((k918.grown0 hg922).grown hS934.grw (some_ne (by omega)))
   refine wpo_call (vs := [.pointer (some ⟨R, 0, none⟩), .int .i64 20]) gf_60 (args_cons rfl (args_cons rfl args_nil)) rfl (pick_c p107 20 (by omega) _ R bs _ _ _ k936 (by omega) (SlLt.low1 hs hb935 hlo) (by first | exact hb | exact fun b h => hb b (List.mem_of_mem_take h)) (by first | omega | (rw [List.length_take]; omega))) ?_
   rintro _ w942 ⟨k937, rfl, hk938, hk939, kR940, hg941⟩
   have hb943 := grown_trans hb935 hg941
   refine wpo_fieldAddr (o' := 4) fo_45_3 rfl rfl rfl ?_
   have k944 := (hS934.blk.grown hg941 (some_ne (by omega)))
   refine wpo_store1 (v := .int .i64 k937) (cs' := #[.int .i64 1, .int .i64 0, .int .i64 0, .int .i64 0, .int .i64 k937, .slice (some ⟨B923, 0, none⟩) 0 cap924, .slice (some ⟨B927, 0, none⟩) 0 cap928, .int .i64 0]) ot_3 rfl rfl rfl k944 (Nat.le_of_ble_eq_true rfl) rfl ?_
   intro w945 hS946
   have hb947 := low1 hb943 hS946.grw (by omega)
   refine wpo_nil ?_
   refine wpf_region ?_
   refine wpo_move (v := .pointer (some ⟨R, 0, none⟩)) rfl rfl ?_
   have k948 := (kR940.grown hS946.grw (some_ne (by omega)))
   refine wpo_call (vs := [.pointer (some ⟨R, 0, none⟩), .int .i64 3]) gf_60 (args_cons rfl (args_cons rfl args_nil)) rfl (pick_c (p107 + 1) 3 (by omega) _ R bs _ _ _ k948 (by omega) (SlLt.low1 hs hb947 hlo) (by first | exact hb | exact fun b h => hb b (List.mem_of_mem_take h)) (by first | omega | (rw [List.length_take]; omega))) ?_
   rintro _ w954 ⟨k949, rfl, hk950, hk951, kR952, hg953⟩
   have hb955 := grown_trans hb947 hg953
   refine wpo_quo (c := k949 / 2) rfl rfl (by omega) (by omega) (by omega) rfl rfl ?_
   refine wpo_fieldAddr (o' := 3) fo_45_2 rfl rfl rfl ?_
   have k956 := (hS946.blk.grown hg953 (some_ne (by omega)))
   refine wpo_store1 (v := .int .i64 (k949 / 2)) (cs' := #[.int .i64 1, .int .i64 0, .int .i64 0, .int .i64 (k949 / 2), .int .i64 k937, .slice (some ⟨B923, 0, none⟩) 0 cap924, .slice (some ⟨B927, 0, none⟩) 0 cap928, .int .i64 0]) ot_3 rfl rfl rfl k956 (Nat.le_of_ble_eq_true rfl) rfl ?_
   intro w957 hS958
   have hb959 := low1 hb955 hS958.grw (by omega)
   refine wpo_nil ?_
   refine blk_n ?_
   refine thn_n ?_
   refine wpf_seq_region ?_
   refine wpo_loadn (vs := [.int .i64 1, .int .i64 0, .int .i64 0, .int .i64 (k949 / 2), .int .i64 k937, .slice (some ⟨B923, 0, none⟩) 0 cap924, .slice (some ⟨B927, 0, none⟩) 0 cap928, .int .i64 0]) rt_45 rfl rfl (hS958.blk.rangeL 0 8 rfl) rfl ?_
   have k960 := ((((((k919.grown0 hg922).grown hS934.grw (some_ne (by omega))).grown hg941 (some_ne (by omega))).grown hS946.grw (some_ne (by omega))).grown hg953 (some_ne (by omega))).grown hS958.grw (some_ne (by omega)))
   refine wpo_storen (vs := [.int .i64 1, .int .i64 0, .int .i64 0, .int .i64 (k949 / 2), .int .i64 k937, .slice (some ⟨B923, 0, none⟩) 0 cap924, .slice (some ⟨B927, 0, none⟩) 0 cap928, .int .i64 0]) (cs' := #[.int .i64 1, .int .i64 0, .int .i64 0, .int .i64 (k949 / 2), .int .i64 k937, .slice (some ⟨B923, 0, none⟩) 0 cap924, .slice (some ⟨B927, 0, none⟩) 0 cap928, .int .i64 0]) rt_45 rfl rfl rfl (by simp [Value.oneCell']) k960 (Nat.le_of_ble_eq_true rfl) rfl ?_
   intro w961 hS962
   have hb963 := low1 hb959 hS962.grw (by omega)
   refine wpo_nil ?_
   refine wpf_ret ?_
   have k964 := ((((((hO930.grown hS934.grw (some_ne (by omega))).grown hg941 (some_ne (by omega))).grown hS946.grw (some_ne (by omega))).grown hg953 (some_ne (by omega))).grown hS958.grw (some_ne (by omega))).grown hS962.grw (some_ne (by omega)))
   have k965 := ((((((hO926.grown hS934.grw (some_ne (by omega))).grown hg941 (some_ne (by omega))).grown hS946.grw (some_ne (by omega))).grown hg953 (some_ne (by omega))).grown hS958.grw (some_ne (by omega))).grown hS962.grw (some_ne (by omega)))
   have k966 := ((kR952.grown hS958.grw (some_ne (by omega))).grown hS962.grw (some_ne (by omega)))
   refine ⟨.agg #[.int .i64 1, .int .i64 0, .int .i64 0, .int .i64 (k949 / 2), .int .i64 k937, .slice (some ⟨B923, 0, none⟩) 0 cap924, .slice (some ⟨B927, 0, none⟩) 0 cap928, .int .i64 0], resC rfl (resCell_mk (vs := [.int .i64 1, .int .i64 0, .int .i64 0, .int .i64 (k949 / 2), .int .i64 k937, .slice (some ⟨B923, 0, none⟩) 0 cap924, .slice (some ⟨B927, 0, none⟩) 0 cap928, .int .i64 0]) rt_45 rfl rfl (hS962.blk.rangeL 0 8 rfl)), ⟨⟨1, ⟨0, 0⟩, k949 / 2, k937, ([] : List Rt), ([] : List Int), 0⟩, some ⟨B923, 0, none⟩, cap924, some ⟨B927, 0, none⟩, cap928⟩, (p107 + 1 + 1), rfl, ⟨OwnN.of k964 hlB927, ⟨([] : List Rt), OwnN.of k965 hlB923, rfl, ?_⟩, ?_, ?_, ⟨show (0 : Int) ≤ k949 / 2 by omega, show k949 / 2 ≤ (1 : Int) by omega⟩⟩, by omega, by omega, k966, hb963⟩
   ·
    intro x hx; first | (simp [zeros4] at hx; subst hx; exact ⟨by decide, by decide, by decide, by decide⟩) | simp at hx
   ·
    first | exact Nat.le_of_ble_eq_true rfl | omega | (simp only [List.length_nil]; omega)
   ·
    exact Nat.le_of_ble_eq_true rfl
end Go.Proofs.Ytlkmdoebmklbbaa
